import PyProof.Rows.All
import Wide.All
import OpenK.AllK
import Wide.FinOn
import HandS.ForMost
import HandS.Deep
import HandS.Flow
import HandS.Nested
import HandS.Exc
import HandS.TryOnly
import HandS.TupAny
import HandS.TupLe
import HandS.Wide
import HandS.Star
import HandS.Walk
import HandS.Defaults
import HandS.CallSlots
import HandS.ExcOwn
import HandS.Text
import HandS.IsInst
import HandS.MapJoin
import PyProof.ReprRoads
import HandS.Ends
import HandS.HeadEnd
import HandS.HeadWalk
import HandS.Dict
import HandS.Style
import HandS.Iter
import HandS.Comp
import PyProof.Rows.TmSorted
import KE.KExcSuper
import HandS.ExcSuper
import HandS.ExcField
import HandS.HeadHook4
import HandS.Zip
import KE.GoesMore
import KE.GoesZip
import KE.GoesEnum
import PyProof.ListStr
import PyProof.SliceStr2
import HandS.NestedK
import KE.GoesEnumKw
import KE.KNestM
import HandS.Conv
import HandS.Replace
import KE.KIndexWalk
import KE.KExcInit
import HandS.ExcValue
import HandS.Small
import KE.KExcIs
import PyProof.RowDictHeap
import KE.KStateDown
import Lean
import HandS.Base
import HandS.Call
import HandS.More
import HandS.Words
import HandS.WordsExc
import HandS.Head0
import HandS.Head1
import HandS.Head2
import HandS.HeadHook1
import HandS.HeadHook2
import HandS.HeadHook3
import PySem.Challenge.RW_answerrows_k00_errors
import PyProof.Rows.ReprShort
set_option Elab.async false
set_option linter.all false
set_option maxRecDepth 100000
set_option maxHeartbeats 2000000
set_option maxHeartbeats 0
/-! D1: data in the abstract heap; what a variable holds by value (own lists, own dicts); the relation and its one step. -/
namespace Ev
open PySem L2

/-- a function made on the way: its words, its body, the cells that it captured, its code object -/
structure CF where
  name : Str
  qual : Str
  params : Arguments
  body : FuncBody
  scope : Scope
  cl : List (Str × Addr)
  c : Addr
abbrev CF.fd (F : CF) (doc pm ctv : Value) : FuncData :=
  { name := F.name, qualname := F.qual, params := F.params, body := F.body, scope := F.scope, globals := mainGlobals, closure := F.cl, defaults := .none, kwdefaults := .none, doc := doc, pyModule := pm, annotations := none, code := .ref F.c, closureTuple := ctv, builtins := builtinsNs }
/-- at f stands the function F -/
def CfO (f : Addr) (F : CF) : HO := .ext fun h => ∃ (od : Option Addr) (sl : Array (Option Value)) (doc pm ctv : Value), h.get? f = some (⟨.type "function", od, .func (F.fd doc pm ctv), sl⟩ : Obj)
theorem cfO_ne {f : Addr} {F : CF} (ps : Array Value) : CfO f F ≠ .tbl ps := fun z => by
  unfold CfO at z
  cases z
/-- the tables of code objects that are led, each with the names of what it tells -/
class Tb where
  tt : List NdefX.NTab

/-- the state of the law's own drawing -/
structure Src where
  cells : List Int
  left : Int
  mixed : Int
  turn : Int

/-- what a name, or a value on the way, holds: data that nobody changes any more, or a thing that it alone holds -/
inductive SV where
  | dat (d : PyData)
  | lst (ds : List PyData)
  | dic (kvs : List (PyData × PyData))
  | src (S : Src)
  | obj (C : Str) (fs : List (Str × PyData))
  | scr (ns : List Int)
  | tpl (ds : List PyData)
  | kn (o : Unit → Obj) (kvs : List (Key × V))
  | fn (f : Addr) (F : CF) (ws : List V) (cs : List PyData)

/-- a key of a dict as data -/
def kD : Key → PyData
  | .inl i => .int i
  | .inr x => .str x

/-- a list at a that is never written again -/
def SqF (K : PySem.W.Frag) (H : Hp) (a : Addr) (xs : List V) : Prop :=
  (∃ o, H a = some (.frz o (.lst xs))) ∨
    ∃ (o : Obj) (its : Array Value) (n : Nat), K.lookup a = some o ∧ o.cls = .type "list" ∧ o.dict = none ∧ o.data = .seq its n ∧ its.size ≤ sizeLine ∧ Vals xs its.toList
theorem SqF.sql {K : PySem.W.Frag} {H : Hp} {a : Addr} {xs : List V} (h : SqF K H a xs) : SqL K H a xs := by
  rcases h with ⟨o, h⟩ | h
  · exact .inl (.inr ⟨o, h⟩)
  · exact .inr h

/-- an exception object: C its class, t its arguments, d its dict -/
abbrev xObj (C t : Addr) (d : Option Addr) : Obj := { cls := .ref C, dict := d, data := .fields #[.ref t, .none, .none, .none, .bool false, .none] }
def XO (a : Addr) (oe : Obj) : HO := .frz oe (.ext fun h => h.get? a = some oe)
/-- an exception as data -/
def xD (x : Str) (fs : List (Str × PyData)) : PyData := .dict ((.none, .str x) :: fs.map fun f => (.tuple [.str f.1], f.2))
/-- not an exception -/
def noX : List (PyData × PyData) → Bool
  | (.none, _) :: _ => false
  | _ => true
/-- a list at a, made here, that is never written again -/
def FrL (H : Hp) (a : Addr) (xs : List V) : Prop := ∃ o, H a = some (.frz o (.lst xs))
mutual
inductive IsD (K : PySem.W.Frag) (H : Hp) : V → PyData → Prop
  | non : IsD K H .non .none
  | bl (b : Bool) : IsD K H (.bl b) (.bool b)
  | int (i : Int) : IsD K H (.int i) (.int i)
  | str (x : Str) : IsD K H (.str x) (.str x)
  | tup {a : Addr} {xs : List V} {ds : List PyData} : SqT K H a xs → IsAll K H xs ds → IsD K H (.ref a) (.tuple ds)
  | lst {a : Addr} {xs : List V} {ds : List PyData} : FrL H a xs → IsAll K H xs ds → IsD K H (.ref a) (.list ds)
  | dic {a : Addr} {o : Obj} {kvs : List (Key × V)} {ds : List PyData} : H a = some (.frz o (.dK kvs)) → IsAll K H (kvs.map (·.2)) ds →
      IsD K H (.ref a) (.dict ((kvs.map fun p => kD p.1).zip ds))
  | exn {a C t : Addr} {x : Str} : H a = some (XO a (xObj C t none)) → PySem.W.nsIn K mainGlobals x = some (some (.ref C)) → IsD K H (.ref a) (xD x [])
  | exf {a C t d : Addr} {x F : Str} {od : Obj} {v : V} {e : PyData} : H a = some (XO a (xObj C t (some d))) → H d = some (.frz od (.xd [(F, v)])) → PySem.W.nsIn K mainGlobals x = some (some (.ref C)) → IsD K H v e → IsD K H (.ref a) (xD x [(F, e)])
inductive IsAll (K : PySem.W.Frag) (H : Hp) : List V → List PyData → Prop
  | nil : IsAll K H [] []
  | cons {v : V} {vs : List V} {d : PyData} {ds : List PyData} : IsD K H v d → IsAll K H vs ds → IsAll K H (v :: vs) (d :: ds)
end

/-- what stands and may not change, stands -/
def Stays (H H' : Hp) : Prop := (∀ a xs, H a = some (.tup xs) → H' a = some (.tup xs)) ∧ ∀ a o u, H a = some (.frz o u) → H' a = some (.frz o u)
theorem Stays.refl (H : Hp) : Stays H H := ⟨fun _ _ h => h, fun _ _ _ h => h⟩
theorem Stays.trans {H H1 H2 : Hp} (a : Stays H H1) (b : Stays H1 H2) : Stays H H2 := ⟨fun _ _ h => b.1 _ _ (a.1 _ _ h), fun _ _ _ h => b.2 _ _ _ (a.2 _ _ _ h)⟩
/-- what no law's step ever writes: functions made, code objects, their tables -/
def Fixed (o : HO) : Prop := (∃ f F, o = CfO f F) ∨ (∃ c q, o = LamX.CodeO c q) ∨ ∃ ps, o = .tbl ps
theorem fixed_lst {xs : List V} : ¬ Fixed (.lst xs) := by
  rintro (⟨f, F, z⟩ | ⟨c, q, z⟩ | ⟨ps, z⟩)
  · unfold CfO at z; cases z
  · unfold LamX.CodeO at z; cases z
  · cases z
theorem fixed_dK {xs : List (Key × V)} : ¬ Fixed (.dK xs) := by
  rintro (⟨f, F, z⟩ | ⟨c, q, z⟩ | ⟨ps, z⟩)
  · unfold CfO at z; cases z
  · unfold LamX.CodeO at z; cases z
  · cases z
theorem fixed_ins {C dx : Addr} {fs : List (Str × V)} : ¬ Fixed (.ins C dx fs) := by
  rintro (⟨f, F, z⟩ | ⟨c, q, z⟩ | ⟨ps, z⟩)
  · unfold CfO at z; cases z
  · unfold LamX.CodeO at z; cases z
  · cases z

section
variable {K : PySem.W.Frag} {H H' : Hp}
theorem SqT.stays (s : Stays H H') {a : Addr} {xs : List V} (h : SqT K H a xs) : SqT K H' a xs := by
  rcases h with (h | ⟨o, h⟩) | h
  · exact .inl (.inl (s.1 _ _ h))
  · exact .inl (.inr ⟨o, s.2 _ _ _ h⟩)
  · exact .inr h
theorem SqF.stays (s : Stays H H') {a : Addr} {xs : List V} (h : SqF K H a xs) : SqF K H' a xs := by
  rcases h with ⟨o, h⟩ | h
  · exact .inl ⟨o, s.2 _ _ _ h⟩
  · exact .inr h
theorem FrL.stays (s : Stays H H') {a : Addr} {xs : List V} (h : FrL H a xs) : FrL H' a xs := let ⟨o, h⟩ := h; ⟨o, s.2 _ _ _ h⟩
mutual
theorem IsD.stays (s : Stays H H') : ∀ {v : V} {d : PyData}, IsD K H v d → IsD K H' v d
  | _, _, .non => .non
  | _, _, .bl b => .bl b
  | _, _, .int i => .int i
  | _, _, .str x => .str x
  | _, _, .tup h a => .tup (SqT.stays s h) (IsAll.stays s a)
  | _, _, .lst h a => .lst (h.stays s) (IsAll.stays s a)
  | _, _, .dic h a => .dic (s.2 _ _ _ h) (IsAll.stays s a)
  | _, _, .exn h n => .exn (s.2 _ _ _ h) n
  | _, _, .exf h h' n a => .exf (s.2 _ _ _ h) (s.2 _ _ _ h') n (IsD.stays s a)
theorem IsAll.stays (s : Stays H H') : ∀ {vs : List V} {ds : List PyData}, IsAll K H vs ds → IsAll K H' vs ds
  | _, _, .nil => .nil
  | _, _, .cons h a => .cons (h.stays s) (IsAll.stays s a)
end
theorem IsAll.length {vs : List V} {ds : List PyData} (h : IsAll K H vs ds) : vs.length = ds.length := by
  induction ds generalizing vs with
  | nil => cases h; rfl
  | cons d ds ih => cases h with | cons _ t => simp [ih t]
theorem IsAll.append {vs ws : List V} {ds es : List PyData} (h : IsAll K H vs ds) (h' : IsAll K H ws es) : IsAll K H (vs ++ ws) (ds ++ es) := by
  induction ds generalizing vs with
  | nil => cases h; exact h'
  | cons d ds ih => cases h with | cons a t => exact .cons a (ih t)
theorem IsAll.get {vs : List V} {ds : List PyData} (h : IsAll K H vs ds) : ∀ {i : Nat} {d : PyData}, ds[i]? = some d → ∃ v, vs[i]? = some v ∧ IsD K H v d := by
  induction ds generalizing vs with
  | nil => intro i d e; simp at e
  | cons d ds ih =>
    cases h with
    | cons a t =>
      intro i d' e
      cases i with
      | zero => simp at e; subst e; exact ⟨_, rfl, a⟩
      | succ i => simpa using ih t (i := i) (d := d') (by simpa using e)
theorem IsAll.getV {vs : List V} {ds : List PyData} (h : IsAll K H vs ds) : ∀ {i : Nat} {v : V}, vs[i]? = some v → ∃ d, ds[i]? = some d ∧ IsD K H v d := by
  induction ds generalizing vs with
  | nil => cases h; intro i d e; simp at e
  | cons d ds ih =>
    cases h with
    | cons a t =>
      intro i v' e
      cases i with
      | zero => simp at e; subst e; exact ⟨_, rfl, a⟩
      | succ i => simpa using ih t (i := i) (v := v') (by simpa using e)
theorem IsAll.take {vs : List V} {ds : List PyData} (h : IsAll K H vs ds) (n : Nat) : IsAll K H (vs.take n) (ds.take n) := by
  induction ds generalizing vs n with
  | nil => cases h; simp; exact .nil
  | cons d ds ih =>
    cases h with
    | cons a t =>
      cases n with
      | zero => exact .nil
      | succ n => exact .cons a (ih t n)
theorem IsAll.drop {vs : List V} {ds : List PyData} (h : IsAll K H vs ds) (n : Nat) : IsAll K H (vs.drop n) (ds.drop n) := by
  induction ds generalizing vs n with
  | nil => cases h; simp; exact .nil
  | cons d ds ih =>
    cases h with
    | cons a t =>
      cases n with
      | zero => exact .cons a t
      | succ n => exact ih t n
theorem IsAll.reverse {vs : List V} {ds : List PyData} (h : IsAll K H vs ds) : IsAll K H vs.reverse ds.reverse := by
  induction ds generalizing vs with
  | nil => cases h; exact .nil
  | cons d ds ih => cases h with | cons a t => simp only [List.reverse_cons]; exact (ih t).append (.cons a .nil)
theorem IsAll.set {vs : List V} {ds : List PyData} (h : IsAll K H vs ds) {v : V} {d : PyData} (e : IsD K H v d) (n : Nat) : IsAll K H (vs.set n v) (ds.set n d) := by
  induction ds generalizing vs n with
  | nil => cases h; simp; exact .nil
  | cons d ds ih =>
    cases h with
    | cons a t =>
      cases n with
      | zero => exact .cons e t
      | succ n => exact .cons a (ih t n)
theorem IsAll.eraseIdx {vs : List V} {ds : List PyData} (h : IsAll K H vs ds) (n : Nat) : IsAll K H (vs.eraseIdx n) (ds.eraseIdx n) := by
  induction ds generalizing vs n with
  | nil => cases h; simp; exact .nil
  | cons d ds ih =>
    cases h with
    | cons a t =>
      cases n with
      | zero => exact t
      | succ n => exact .cons a (ih t n)

/-- a thing held alone, with the addresses that it holds -/
inductive Ent (K : PySem.W.Frag) (H : Hp) : V × SV → List Addr → Prop
  | dat {v : V} {d : PyData} : IsD K H v d → Ent K H (v, .dat d) []
  | lst {a : Addr} {vs : List V} {ds : List PyData} : H a = some (.lst vs) → IsAll K H vs ds → Ent K H (.ref a, .lst ds) [a]
  | dic {a : Addr} {kvs : List (Key × V)} {ds : List PyData} : H a = some (.dK kvs) → IsAll K H (kvs.map (·.2)) ds →
      Ent K H (.ref a, .dic ((kvs.map fun p => kD p.1).zip ds)) [a]
  | src {a c : Addr} {S : Src} : H a = some (.dK [(.inr "cells", .ref c), (.inr "left", .int S.left), (.inr "mixed", .int S.mixed), (.inr "turn", .int S.turn)]) →
      H c = some (.lst (S.cells.map V.int)) → Ent K H (.ref a, .src S) [a, c]
  | obj {a C dx : Addr} {x : Str} {fs : List (Str × V)} {ds : List PyData} : H a = some (.ins C dx fs) → H dx = some (.own a) → PySem.W.nsIn K mainGlobals x = some (some (.ref C)) → IsAll K H (fs.map (·.2)) ds →
      Ent K H (.ref a, .obj x ((fs.map (·.1)).zip ds)) [a]
  | scr {a : Addr} {ns : List Int} : SqF K H a (ns.map V.int) → Ent K H (.ref a, .scr ns) []
  | tpl {a : Addr} {o : Obj} {xs : List V} {ds : List PyData} : H a = some (.frz o (.tup xs)) → o.dict = none → IsAll K H xs ds → Ent K H (.ref a, .tpl ds) []
  | kn {a : Addr} {o : Unit → Obj} {kvs : List (Key × V)} : H a = some (.frz (o ()) (.dK kvs)) → Ent K H (.ref a, .kn o kvs) []
  | fn {f : Addr} {F : CF} {ws : List V} {cs : List PyData} : H f = some (CfO f F) → H F.c = some (LamX.CodeO F.c F.qual) → IsAll K H ws cs → Ent K H (.ref f, .fn f F ws cs) []
inductive Ents (K : PySem.W.Frag) (H : Hp) : List (V × SV) → List Addr → Prop
  | nil : Ents K H [] []
  | cons {e : V × SV} {L : List (V × SV)} {o os : List Addr} : Ent K H e o → Ents K H L os → Ents K H (e :: L) (o ++ os)

/-- all but what stands at the addresses O stands as it stood -/
def Kp (O : List Addr) (H H' : Hp) : Prop := ∀ a o, H a = some o → a ∉ O → H' a = some o
theorem Kp.refl (O : List Addr) (H : Hp) : Kp O H H := fun _ _ h _ => h
theorem Kp.trans {O : List Addr} {H H1 H2 : Hp} (a : Kp O H H1) (b : Kp O H1 H2) : Kp O H H2 := fun c o h n => b c o (a c o h n) n
theorem Kp.mono {O O' : List Addr} {H H' : Hp} (a : Kp O H H') (s : ∀ x ∈ O, x ∈ O') : Kp O' H H' := fun c o h n => a c o h fun z => n (s c z)
theorem Kp.new {O : List Addr} {p : Addr} {o : HO} (h : H p = none) : Kp O H (upd H p o) := fun a u e _ => by rw [upd_ne (ne_of_none e h)]; exact e
theorem Kp.at {O : List Addr} {p : Addr} {o : HO} (h : p ∈ O) : Kp O H (upd H p o) := fun a u e n => by
  have q : a ≠ p := fun z => by subst z; exact n h
  rw [upd_ne q]; exact e

/-- what stands at an address held alone may be written -/
def Own (H : Hp) (a : Addr) : Prop := ∃ o, H a = some o ∧ (∀ xs, o ≠ .tup xs) ∧ (∀ b u, o ≠ .frz b u) ∧ (∀ x, o ≠ .own x) ∧ ¬ Fixed o
theorem Ent.own {e : V × SV} {o : List Addr} (h : Ent K H e o) : ∀ a ∈ o, Own H a := by
  cases h with
  | dat _ => intro a ha; simp at ha
  | lst h _ => intro a ha; simp at ha; subst ha; exact ⟨_, h, by simp, by simp, by simp, fixed_lst⟩
  | dic h _ => intro a ha; simp at ha; subst ha; exact ⟨_, h, by simp, by simp, by simp, fixed_dK⟩
  | src h h' =>
    intro a ha
    simp at ha
    rcases ha with rfl | rfl
    · exact ⟨_, h, by simp, by simp, by simp, fixed_dK⟩
    · exact ⟨_, h', by simp, by simp, by simp, fixed_lst⟩
  | obj h _ _ _ => intro a ha; simp at ha; subst ha; exact ⟨_, h, by simp, by simp, by simp, fixed_ins⟩
  | scr _ => intro a ha; simp at ha
  | tpl _ _ _ => intro a ha; simp at ha
  | kn _ => intro a ha; simp at ha
  | fn _ _ _ => intro a ha; simp at ha
theorem Ents.own {L : List (V × SV)} {os : List Addr} (h : Ents K H L os) : ∀ a ∈ os, Own H a := by
  induction h with
  | nil => intro a ha; simp at ha
  | cons e _ ih =>
    intro a ha
    rcases List.mem_append.mp ha with q | q
    · exact e.own a q
    · exact ih a q
theorem Kp.stays {O : List Addr} (k : Kp O H H') (ho : ∀ a ∈ O, Own H a) : Stays H H' :=
  ⟨fun a xs h => k a _ h fun z => by obtain ⟨o, e, n, _⟩ := ho a z; rw [h] at e; cases e; exact n _ rfl,
   fun a b u h => k a _ h fun z => by obtain ⟨o, e, _, n, _⟩ := ho a z; rw [h] at e; cases e; exact n _ _ rfl⟩
theorem Kp.fix {O : List Addr} (k : Kp O H H') (ho : ∀ a ∈ O, Own H a) {a : Addr} {o : HO} (h : H a = some o) (f : Fixed o) : H' a = some o :=
  k a _ h fun z => by obtain ⟨u, e, _, _, _, n⟩ := ho a z; rw [h] at e; cases e; exact n f
theorem Ent.keeps {O : List Addr} (k : Kp O H H') (ho : ∀ a ∈ O, Own H a) {e : V × SV} {o : List Addr} (h : Ent K H e o) (d : ∀ a ∈ o, a ∉ O) : Ent K H' e o := by
  have s := k.stays ho
  cases h with
  | dat h => exact .dat (h.stays s)
  | lst h t => exact .lst (k _ _ h (d _ (by simp))) (t.stays s)
  | dic h t => exact .dic (k _ _ h (d _ (by simp))) (t.stays s)
  | src h h' => exact .src (k _ _ h (d _ (by simp))) (k _ _ h' (d _ (by simp)))
  | obj h h' n t => exact .obj (k _ _ h (d _ (by simp))) (k _ _ h' fun z => by obtain ⟨o, e, _, _, q, _⟩ := ho _ z; rw [h'] at e; cases e; exact q _ rfl) n (t.stays s)
  | scr h => exact .scr (h.stays s)
  | tpl h n t => exact .tpl (s.2 _ _ _ h) n (t.stays s)
  | kn h => exact .kn (s.2 _ _ _ h)
  | fn h h' t => exact .fn (k.fix ho h (.inl ⟨_, _, rfl⟩)) (k.fix ho h' (.inr (.inl ⟨_, _, rfl⟩))) (t.stays s)
theorem Ents.keeps {O : List Addr} (k : Kp O H H') (ho : ∀ a ∈ O, Own H a) {L : List (V × SV)} {os : List Addr} (h : Ents K H L os) (d : ∀ a ∈ os, a ∉ O) : Ents K H' L os := by
  induction h with
  | nil => exact .nil
  | cons e _ ih => exact .cons (e.keeps k ho fun a ha => d a (List.mem_append_left _ ha)) (ih fun a ha => d a (List.mem_append_right _ ha))
theorem Ents.append {L L' : List (V × SV)} {os os' : List Addr} (h : Ents K H L os) (h' : Ents K H L' os') : Ents K H (L ++ L') (os ++ os') := by
  induction h with
  | nil => exact h'
  | cons e _ ih => rw [List.cons_append, List.append_assoc]; exact .cons e ih
theorem Ents.split : ∀ {L L' : List (V × SV)} {os : List Addr}, Ents K H (L ++ L') os → ∃ o1 o2, os = o1 ++ o2 ∧ Ents K H L o1 ∧ Ents K H L' o2
  | [], _, os, h => ⟨[], os, rfl, .nil, h⟩
  | e :: L, L', _, .cons (o := o) he h => by
    obtain ⟨o1, o2, rfl, a, b⟩ := Ents.split h
    exact ⟨o ++ o1, o2, by rw [List.append_assoc], .cons he a, b⟩
theorem Ents.perm {L L' : List (V × SV)} (p : L.Perm L') : ∀ {os : List Addr}, Ents K H L os → ∃ os', os.Perm os' ∧ Ents K H L' os' := by
  induction p with
  | nil => intro os h; exact ⟨os, .refl _, h⟩
  | cons x _ ih =>
    intro os h
    cases h with
    | cons he h =>
      obtain ⟨os', p, h'⟩ := ih h
      exact ⟨_, p.append_left _, .cons he h'⟩
  | swap x y l =>
    intro os h
    cases h with
    | cons h1 h =>
      cases h with
      | cons h2 h =>
        rename_i o1 o2 os
        refine ⟨o2 ++ (o1 ++ os), ?_, .cons h2 (.cons h1 h)⟩
        rw [← List.append_assoc, ← List.append_assoc]
        exact List.Perm.append_right _ List.perm_append_comm
  | trans _ _ ih1 ih2 =>
    intro os h
    obtain ⟨o1, p1, h1⟩ := ih1 h
    obtain ⟨o2, p2, h2⟩ := ih2 h1
    exact ⟨o2, p1.trans p2, h2⟩

/-- a table that stands while nothing fixed is written -/
theorem TabN.fix {P : Addr} {nm : Nat → Nat → Str} (t : NdefX.TabN H P nm) (k : ∀ a o, H a = some o → Fixed o → H' a = some o) : NdefX.TabN H' P nm := by
  obtain ⟨ps, h1, h2, h3⟩ := t
  refine ⟨ps, k _ _ h1 (.inr (.inr ⟨_, rfl⟩)), h2, fun pos cv hc => ?_⟩
  obtain ⟨c, e1, e2⟩ := h3 pos cv hc
  exact ⟨c, e1, k _ _ e2 (.inr (.inl ⟨_, _, rfl⟩))⟩
variable [Tb]
/-- the whole state: from the entry heap H0, where the things at O0 were handed over -/
structure Rel (K : PySem.W.Frag) (H0 : Hp) (O0 : List Addr) (H : Hp) (L : List (V × SV)) : Prop where
  ex : ∃ os, Ents K H L os ∧ os.Nodup ∧ ∀ a ∈ os, a ∈ O0 ∨ H0 a = none
  kp : Kp O0 H0 H
  tb : ∀ p ∈ Tb.tt, NdefX.TabN H p.1 p.2
  tn : ∀ a ps, H0 a = some (.tbl ps) → a ∈ O0
variable {H0 : Hp} {O0 : List Addr}
theorem Rel.perm {L L' : List (V × SV)} (R : Rel K H0 O0 H L) (p : L.Perm L') : Rel K H0 O0 H L' := by
  obtain ⟨os, h, n, f⟩ := R.ex
  obtain ⟨os', q, h'⟩ := h.perm p
  exact ⟨⟨os', h', q.nodup_iff.mp n, fun a ha => f a (q.mem_iff.mpr ha)⟩, R.kp, R.tb, R.tn⟩
theorem Rel.drop {L L' : List (V × SV)} (R : Rel K H0 O0 H (L ++ L')) : Rel K H0 O0 H L' := by
  obtain ⟨os, h, n, f⟩ := R.ex
  obtain ⟨o1, o2, rfl, _, h2⟩ := h.split
  exact ⟨⟨o2, h2, (List.nodup_append.mp n).2.1, fun a ha => f a (List.mem_append_right _ ha)⟩, R.kp, R.tb, R.tn⟩
/-- THE STEP: the things in front are exchanged -/
theorem Rel.step {Lc Lr Ln : List (V × SV)} (R : Rel K H0 O0 H (Lc ++ Lr))
    (h : ∀ oc, Ents K H Lc oc → oc.Nodup → ∃ on, Ents K H' Ln on ∧ on.Nodup ∧ (∀ a ∈ on, a ∈ oc ∨ H a = none) ∧ Kp oc H H') : Rel K H0 O0 H' (Ln ++ Lr) := by
  obtain ⟨os, he, n, f⟩ := R.ex
  obtain ⟨oc, orr, rfl, hc, hr⟩ := he.split
  obtain ⟨n1, n2, nd⟩ := List.nodup_append.mp n
  obtain ⟨on, hn, nn, hw, k⟩ := h oc hc n1
  have own : ∀ a ∈ oc, Own H a := hc.own
  refine ⟨⟨on ++ orr, hn.append (hr.keeps k own fun a ha z => nd a z a ha rfl), List.nodup_append.mpr ⟨nn, n2, fun a ha b hb e => ?_⟩, fun a ha => ?_⟩, fun a o e na => ?_, fun p hp => TabN.fix (R.tb p hp) fun a o e q => k.fix own e q, R.tn⟩
  · subst e
    rcases hw a ha with z | z
    · exact nd a z a hb rfl
    · obtain ⟨o, q, _⟩ := hr.own a hb
      rw [z] at q; cases q
  · rcases List.mem_append.mp ha with q | q
    · rcases hw a q with z | z
      · exact f a (List.mem_append_left _ z)
      · by_cases hO : a ∈ O0
        · exact .inl hO
        · cases e : H0 a with
          | none => exact .inr rfl
          | some o => have q' := R.kp a o e hO; rw [z] at q'; cases q'
    · exact f a (List.mem_append_right _ q)
  · refine k a o (R.kp a o e na) fun z => ?_
    rcases f a (List.mem_append_left _ z) with q | q
    · exact na q
    · rw [q] at e; cases e
/-- tables have grown, functions and code objects were made -/
theorem ExtN.stays (x : LamX.ExtN H H') : Stays H H' := ⟨fun a xs h => x a _ h (fun ps z => by cases z), fun a o u h => x a _ h (fun ps z => by cases z)⟩
theorem Ent.ext (x : LamX.ExtN H H') {e : V × SV} {o : List Addr} (h : Ent K H e o) : Ent K H' e o := by
  have s := ExtN.stays x
  cases h with
  | dat h => exact .dat (h.stays s)
  | lst h t => exact .lst (x _ _ h (fun ps z => by cases z)) (t.stays s)
  | dic h t => exact .dic (x _ _ h (fun ps z => by cases z)) (t.stays s)
  | src h h' => exact .src (x _ _ h (fun ps z => by cases z)) (x _ _ h' (fun ps z => by cases z))
  | obj h h' n t => exact .obj (x _ _ h (fun ps z => by cases z)) (x _ _ h' (fun ps z => by cases z)) n (t.stays s)
  | scr h => exact .scr (h.stays s)
  | tpl h n t => exact .tpl (s.2 _ _ _ h) n (t.stays s)
  | kn h => exact .kn (s.2 _ _ _ h)
  | fn h h' t => exact .fn (x _ _ h cfO_ne) (x _ _ h' LamX.codeO_ne) (t.stays s)
theorem Rel.tstep {L : List (V × SV)} (R : Rel K H0 O0 H L) (x : LamX.ExtN H H') (t : NdefX.TabsN Tb.tt H') : Rel K H0 O0 H' L := by
  obtain ⟨os, he, n, f⟩ := R.ex
  refine ⟨⟨os, ?_, n, f⟩, fun a o e na => ?_, t, R.tn⟩
  · clear n f R
    induction he with
    | nil => exact .nil
    | cons e _ ih => exact .cons (e.ext x) ih
  · refine x a o (R.kp a o e na) fun ps z => na ?_
    subst z
    exact R.tn a ps e
/-- something new, or nothing at all, was made; data v came out -/
theorem Rel.push {L : List (V × SV)} {v : V} {d : PyData} (R : Rel K H0 O0 H L) (k : ∀ O, Kp O H H') (i : IsD K H' v d) : Rel K H0 O0 H' ((v, .dat d) :: L) :=
  R.step (Lc := []) (Ln := [(v, .dat d)]) fun oc h n => by
    cases h
    exact ⟨[], .cons (.dat i) .nil, List.nodup_nil, fun a ha => by simp at ha, k _⟩
theorem Rel.ent {L : List (V × SV)} {e : V × SV} (R : Rel K H0 O0 H L) (h : e ∈ L) : ∃ o, Ent K H e o := by
  obtain ⟨os, he, n, f⟩ := R.ex
  clear n f R
  induction he with
  | nil => simp at h
  | cons a _ ih =>
    rcases List.mem_cons.mp h with rfl | h
    · exact ⟨_, a⟩
    · exact ih h
end
end Ev

/-! D2: the value semantics of the fragment, as functions on what the names hold. -/
namespace Ev
open PySem L2

abbrev DS := List (Option SV)
structure Exn where
  cls : Str
  fs : List (Str × PyData)
inductive R (α : Type) where
  | ok (a : α) (δ : DS)
  | exn (x : Exn) (δ : DS)
  | bad
abbrev M (α : Type) := DS → R α
def ret {α : Type} (a : α) : M α := fun δ => .ok a δ
def bnd {α β : Type} (m : M α) (f : α → M β) : M β := fun δ => match m δ with
  | .ok a δ' => f a δ'
  | .exn x δ' => .exn x δ'
  | .bad => .bad
def stuck {α : Type} : M α := fun _ => .bad
/-- an operand: a value, or what stands in a slot -/
inductive Opd where
  | val (s : SV)
  | slot (i : Nat)
inductive Flw where
  | nx | bk | ct
  | rt (v : SV)
def SV.data : SV → Option PyData
  | .dat d => some d
  | .lst ds => some (.list ds)
  | .dic kvs => some (.dict kvs)
  | .tpl ds => some (.tuple ds)
  | _ => none
def at? (δ : DS) (i : Nat) : Option SV := (δ[i]?).join
def Opd.data (δ : DS) : Opd → Option PyData
  | .val s => s.data
  | .slot i => (at? δ i).bind SV.data
def datas (δ : DS) : List Opd → Option (List PyData)
  | [] => some []
  | o :: os => match o.data δ with
    | none => none
    | some d => match datas δ os with
      | none => none
      | some ds => some (d :: ds)
/-- the data of operands, then a value out of them -/
def opN (f : List PyData → Option SV) (os : List Opd) : M Opd := fun δ => match datas δ os with
  | none => .bad
  | some ds => match f ds with
    | none => .bad
    | some s => .ok (.val s) δ
def evs : List (M Opd) → M (List Opd)
  | [] => ret []
  | m :: ms => bnd m fun o => bnd (evs ms) fun os => ret (o :: os)
def eOp (f : List PyData → Option SV) (ms : List (M Opd)) : M Opd := bnd (evs ms) (opN f)
/-- what stands in a slot is taken out as data: held alone no more -/
def take : Opd → M SV
  | .val s => ret s
  | .slot i => fun δ => match (at? δ i).bind SV.data with
    | some d => .ok (.dat d) (δ.set i (some (.dat d)))
    | none => .bad
def takeD (o : Opd) : M PyData := bnd (take o) fun s => match s.data with
  | some d => ret d
  | none => stuck
def takes : List Opd → M (List PyData)
  | [] => ret []
  | o :: os => bnd (takeD o) fun d => bnd (takes os) fun ds => ret (d :: ds)
/-- what a star spreads -/
def spread (o : Opd) : M (List PyData) := fun δ => match o.data δ with
  | some (.list ds) => .ok ds δ
  | some (.tuple ds) => .ok ds δ
  | _ => .bad
/-- a row of arguments, some starred -/
def evS : List (Bool × M Opd) → M (List Opd)
  | [] => ret []
  | (false, m) :: r => bnd m fun o => bnd (evS r) fun os => ret (o :: os)
  | (true, m) :: r => bnd m fun o => bnd (spread o) fun ds => bnd (evS r) fun os => ret (ds.map (fun d => .val (.dat d)) ++ os)
def eTup (ms : List (Bool × M Opd)) : M Opd := bnd (evS ms) fun os => bnd (takes os) fun ds => if ds.length ≤ sizeLine then ret (.val (.dat (.tuple ds))) else stuck
def eLst (ms : List (Bool × M Opd)) : M Opd := bnd (evS ms) fun os => bnd (takes os) fun ds => if ds.length ≤ sizeLine then ret (.val (.lst ds)) else stuck
def eSlot (i : Nat) : M Opd := fun δ => match at? δ i with
  | some (.dat d) => .ok (.val (.dat d)) δ
  | some (.tpl ds) => .ok (.val (.tpl ds)) δ
  | some _ => .ok (.slot i) δ
  | none => .bad
def eDat (d : PyData) : M Opd := ret (.val (.dat d))

/-! ### truth, ifs -/
def truthy : PyData → Option Bool
  | .none => some false
  | .bool b => some b
  | .int i => some (i != 0)
  | .str s => if s.length ≤ sizeLine then some ((s.length : Int) != 0) else none
  | .list xs => some !xs.isEmpty
  | .tuple xs => some !xs.isEmpty
  | .dict _ => none
def truth (o : Opd) : M Bool := fun δ => match (o.data δ).bind truthy with
  | some b => .ok b δ
  | none => .bad
def tOf (m : M Opd) : M Bool := bnd m truth
def tAnd (a b : M Bool) : M Bool := bnd a fun c => if c then b else ret false
def tOr (a b : M Bool) : M Bool := bnd a fun c => if c then ret true else b
def tNot (a : M Bool) : M Bool := bnd a fun c => ret (!c)
def eAnd (a b : M Opd) : M Opd := bnd a fun o => bnd (truth o) fun c => if c then b else ret o
def eOr (a b : M Opd) : M Opd := bnd a fun o => bnd (truth o) fun c => if c then ret o else b
def eNot (a : M Bool) : M Opd := bnd a fun c => ret (.val (.dat (.bool (!c))))
def mIf {α : Type} (c : M Bool) (a b : M α) : M α := bnd c fun k => if k then a else b

/-! ### operators -/
def cat? (x y : Str) : Option SV := if x.length + y.length ≤ sizeLine then some (.dat (.str (x ++ y))) else none
def gAdd : PyData → PyData → Option SV
  | .int i, .int j => some (.dat (.int (i + j)))
  | .str x, .str y => cat? x y
  | .tuple x, .tuple y => if x.length + y.length ≤ sizeLine then some (.dat (.tuple (x ++ y))) else none
  | .list x, .list y => if x.length + y.length ≤ sizeLine then some (.lst (x ++ y)) else none
  | _, _ => none
def gSub : PyData → PyData → Option SV
  | .int i, .int j => some (.dat (.int (i - j)))
  | _, _ => none
def gMul : PyData → PyData → Option SV
  | .int i, .int j => if (-(2 ^ 64) < i ∧ i < 2 ^ 64) ∨ (-(2 ^ 64) < j ∧ j < 2 ^ 64) then some (.dat (.int (i * j))) else none
  | .str x, .int k => if 1 ≤ k ∧ k ≤ 1000 ∧ x.length ≤ 1000 then some (.dat (.str (Txt.mul x k))) else none
  | .list x, .int k => if -(2 ^ 63) ≤ k ∧ k < 2 ^ 63 ∧ x.length * k.toNat ≤ sizeLine then some (.lst (List.replicate k.toNat x).flatten) else none
  | _, _ => none
def gDiv : PyData → PyData → Option SV
  | .int i, .int j => if 0 < j ∧ j < 1073741824 then some (.dat (.int (i / j))) else none
  | _, _ => none
def gMod : PyData → PyData → Option SV
  | .int i, .int j => if 0 < j then some (.dat (.int (i % j))) else none
  | _, _ => none
def gShl : PyData → PyData → Option SV
  | .int i, .int j => if 0 ≤ j ∧ j ≤ 1000000 ∧ i.natAbs < 2 ^ 64 then some (.dat (.int (i * 2 ^ j.toNat))) else none
  | _, _ => none
def gShr : PyData → PyData → Option SV
  | .int i, .int j => if 0 ≤ j then some (.dat (.int (i / 2 ^ j.toNat))) else none
  | _, _ => none
def gPow : PyData → PyData → Option SV
  | .int i, .int j => if 0 ≤ j ∧ j ≤ 1000000 ∧ i.natAbs < 2 ^ 64 then some (.dat (.int (i ^ j.toNat))) else none
  | _, _ => none
def gBin : Operator → PyData → PyData → Option SV
  | .Add => gAdd
  | .Sub => gSub
  | .Mult => gMul
  | .FloorDiv => gDiv
  | .Mod => gMod
  | .LShift => gShl
  | .RShift => gShr
  | .Pow => gPow
  | _ => fun _ _ => none
def gUn : UnaryOp → PyData → Option SV
  | .USub, .int i => some (.dat (.int (-i)))
  | _, _ => none
def bool? (b : Bool) : Option SV := some (.dat (.bool b))
def strEq? : PyData → PyData → Option Bool
  | .str x, .str y => some (x.cps.toList == y.cps.toList)
  | _, _ => none
def eq? (d e : PyData) : Option Bool := if d.canLay0 && e.canLay0 && decide (min d.depth e.depth ≤ 64) then some (PyData.eqv d e) else strEq? d e
def inAll? (x : PyData) (ys : List PyData) : Option Bool := if x.canLay0 && PyData.canLayAll0 ys && decide (min (PyData.depthAll ys) x.depth ≤ 64) then some (ys.any fun z => PyData.eqv z x) else none
def in? (x : PyData) : PyData → Option Bool
  | .str y => match x with
    | .str z => some (!(Builtin.Str.occurrences y z 0 y.length 1).isEmpty)
    | _ => none
  | .list ys => inAll? x ys
  | .tuple ys => inAll? x ys
  | _ => none
def isNn : PyData → Bool
  | .none => true
  | _ => false
def is? : PyData → PyData → Option Bool
  | .bool a, .bool b => some (decide (a = b))
  | d, .none => some (isNn d)
  | _, _ => none
def gCmp : CmpOp → PyData → PyData → Option Bool
  | .Eq => eq?
  | .NotEq => fun d e => (eq? d e).map (!·)
  | .Lt => fun d e => match d, e with
    | .int i, .int j => some (decide (i < j))
    | .str x, .str y => some (decide (x.cps.toList < y.cps.toList))
    | _, _ => none
  | .LtE => fun d e => match d, e with
    | .int i, .int j => some (decide (i ≤ j))
    | .str x, .str y => some (!decide (y.cps.toList < x.cps.toList))
    | _, _ => none
  | .Gt => fun d e => match d, e with
    | .int i, .int j => some (decide (j < i))
    | .str x, .str y => some (decide (y.cps.toList < x.cps.toList))
    | _, _ => none
  | .GtE => fun d e => match d, e with
    | .int i, .int j => some (decide (j ≤ i))
    | .str x, .str y => some (!decide (x.cps.toList < y.cps.toList))
    | _, _ => none
  | .In => in?
  | .NotIn => fun d e => (in? d e).map (!·)
  | .Is => is?
  | .IsNot => fun d e => (is? d e).map (!·)
def g1 (f : PyData → Option SV) : List PyData → Option SV
  | [d] => f d
  | _ => none
def g2 (f : PyData → PyData → Option SV) : List PyData → Option SV
  | [d, e] => f d e
  | _ => none
def gB2 (f : PyData → PyData → Option Bool) : List PyData → Option SV
  | [d, e] => (f d e).map fun b => .dat (.bool b)
  | _ => none
def eChain (o1 o2 : CmpOp) (a b c : M Opd) : M Opd := bnd a fun x => bnd b fun y => bnd (opN (gB2 (gCmp o1)) [x, y]) fun z => bnd (truth z) fun k =>
  if k then bnd c fun w => opN (gB2 (gCmp o2)) [y, w] else ret z

/-! ### items, slices -/
def gIdx : PyData → PyData → Option SV
  | .list xs, .int i => (atI xs i).map .dat
  | .tuple xs, .int i => (atI xs i).map .dat
  | .str z, .int i => if z.length ≤ sizeLine then (atI z.cps.toList i).map fun c => .dat (.str ⟨#[c]⟩) else none
  | _, _ => none
def cutD {α : Type} (xs : List α) (lo hi : Option Int) : List α := (xs.drop (HT.sIx xs.length 0 lo)).take (HT.sIx xs.length xs.length hi - HT.sIx xs.length 0 lo)
/-- x[lo:hi] -/
def gCut (lo hi : Option Int) : PyData → Option SV
  | .list xs => some (.lst (cutD xs lo hi))
  | .tuple xs => some (.dat (.tuple (cutD xs lo hi)))
  | .str z => if z.length ≤ sizeLine then some (.dat (.str (cutS z lo hi))) else none
  | _ => none
def intO (m : M Opd) : M Int := bnd m fun o => fun δ => match o.data δ with
  | some (.int i) => .ok i δ
  | _ => .bad
def partM : Option (M Opd) → M (Option Int)
  | none => ret none
  | some m => bnd (intO m) fun i => ret (some i)
def eCut (a : M Opd) (lo hi : Option (M Opd)) : M Opd := bnd a fun x => bnd (partM lo) fun l => bnd (partM hi) fun h => opN (g1 (gCut l h)) [x]

/-! ### statements -/
def sSeq (a b : M Flw) : M Flw := bnd a fun f => match f with
  | .nx => b
  | f => ret f
def sDo (m : M Opd) : M Flw := bnd m fun _ => ret .nx
/-- a target -/
abbrev TgD := SV → DS → Option DS
def gName (i : Nat) : TgD := fun s δ => if i < δ.length then some (δ.set i (some s)) else none
def gTupL : List TgD → List PyData → DS → Option DS
  | [], [], δ => some δ
  | g :: gs, d :: ds, δ => (g (.dat d) δ).bind (gTupL gs ds)
  | _, _, _ => none
def tupOf : SV → Option (List PyData)
  | .dat (.tuple ds) => some ds
  | _ => none
def gTup (gs : List TgD) : TgD := fun s δ => (tupOf s).bind fun ds => gTupL gs ds δ
def asg (g : TgD) (s : SV) : M Unit := fun δ => match g s δ with
  | some δ' => .ok () δ'
  | none => .bad
def sSet (g : TgD) (m : M Opd) : M Flw := bnd m fun o => bnd (take o) fun s => bnd (asg g s) fun _ => ret .nx
/-- what a return hands out: a thing held by a local name leaves with it -/
def leave (np : Nat) : Opd → M SV
  | .val s => ret s
  | .slot i => if i < np then take (.slot i) else fun δ => match at? δ i with
    | some s => .ok s (δ.set i none)
    | none => .bad
def sRet (np : Nat) (m : M Opd) : M Flw := bnd m fun o => bnd (leave np o) fun s => ret (.rt s)
def sRetN : M Flw := ret (.rt (.dat .none))
def loopN (t : M Bool) (b : M Flw) : Nat → M Flw
  | 0 => stuck
  | n + 1 => bnd t fun c => if c then bnd b fun f => match f with
      | .nx => loopN t b n
      | .ct => loopN t b n
      | .bk => ret .nx
      | .rt s => ret (.rt s)
    else ret .nx
open Classical in
noncomputable def mWhile (t : M Bool) (b : M Flw) : M Flw := fun δ => if h : ∃ n, loopN t b n δ ≠ .bad then loopN t b (Classical.choose h) δ else .bad
theorem bnd_bad {α β : Type} {m : M α} {f g : α → M β} {δ : DS} (h : bnd m f δ ≠ .bad) (e : ∀ a δ', f a δ' ≠ .bad → g a δ' = f a δ') : bnd m g δ = bnd m f δ := by
  unfold bnd at h ⊢
  cases e1 : m δ with
  | bad => rfl
  | exn x δ1 => rfl
  | ok a δ1 => simp only [e1] at h ⊢; exact e a δ1 h
theorem loopN_succ {t : M Bool} {b : M Flw} : ∀ {n : Nat} {δ : DS}, loopN t b n δ ≠ .bad → loopN t b (n + 1) δ = loopN t b n δ
  | 0, δ, h => absurd rfl h
  | n + 1, δ, h => by
    refine bnd_bad h fun c δ1 h1 => ?_
    cases c with
    | false => rfl
    | true =>
      refine bnd_bad h1 fun f δ2 h2 => ?_
      cases f with
      | nx => exact loopN_succ h2
      | ct => exact loopN_succ h2
      | bk => rfl
      | rt s => rfl
theorem loopN_le {t : M Bool} {b : M Flw} {n m : Nat} {δ : DS} (h : loopN t b n δ ≠ .bad) (l : n ≤ m) : loopN t b m δ = loopN t b n δ := by
  induction m with
  | zero => cases Nat.le_zero.mp l; rfl
  | succ m ih =>
    by_cases e : n = m + 1
    · rw [e]
    · have q := ih (by omega)
      rw [← q]
      exact loopN_succ (by rw [q]; exact h)
theorem mWhile_of {t : M Bool} {b : M Flw} {n : Nat} {δ : DS} (h : loopN t b n δ ≠ .bad) : mWhile t b δ = loopN t b n δ := by
  have ex : ∃ n, loopN t b n δ ≠ .bad := ⟨n, h⟩
  unfold mWhile
  rw [dif_pos ex]
  have hc := Classical.choose_spec ex
  by_cases l : n ≤ Classical.choose ex
  · exact loopN_le h l
  · exact (loopN_le hc (by omega)).symm
theorem mWhile_ex {t : M Bool} {b : M Flw} {δ : DS} (h : mWhile t b δ ≠ .bad) : ∃ n, mWhile t b δ = loopN t b n δ := by
  by_cases ex : ∃ n, loopN t b n δ ≠ .bad
  · exact ⟨Classical.choose ex, by unfold mWhile; rw [dif_pos ex]⟩
  · exact absurd (by unfold mWhile; rw [dif_neg ex]) h
/-- one turn -/
theorem mWhile_eq (t : M Bool) (b : M Flw) : mWhile t b = bnd t fun c => if c then bnd b fun f => match f with
      | .nx => mWhile t b
      | .ct => mWhile t b
      | .bk => ret .nx
      | .rt s => ret (.rt s)
    else ret .nx := by
  funext δ
  by_cases h : ∃ n, loopN t b n δ ≠ .bad
  · obtain ⟨n, h⟩ := h
    rw [mWhile_of h]
    cases n with
    | zero => exact absurd rfl h
    | succ n =>
      refine (bnd_bad h fun c δ1 h1 => ?_).symm
      cases c with
      | false => rfl
      | true =>
        refine bnd_bad h1 fun f δ2 h2 => ?_
        cases f with
        | nx => exact mWhile_of h2
        | ct => exact mWhile_of h2
        | bk => rfl
        | rt s => rfl
  · have e : mWhile t b δ = .bad := by unfold mWhile; rw [dif_neg h]
    rw [e]
    have hb : ∀ n, loopN t b n δ = .bad := fun n => Classical.byContradiction fun q => h ⟨n, q⟩
    have h1 := fun n => hb (n + 1)
    simp only [loopN] at h1
    unfold bnd at h1 ⊢
    cases e1 : t δ with
    | bad => rfl
    | exn x δ1 => have := h1 0; simp only [e1] at this; cases this
    | ok c δ1 =>
      simp only [e1] at h1 ⊢
      cases c with
      | false => have := h1 0; simp only [Bool.false_eq_true, if_false, ret] at this; cases this
      | true =>
        simp only [if_true] at h1 ⊢
        cases e2 : b δ1 with
        | bad => rfl
        | exn x δ2 => have := h1 0; simp only [e2] at this; cases this
        | ok f δ2 =>
          simp only [e2] at h1 ⊢
          have fin : (∀ n, loopN t b n δ2 = .bad) → R.bad = mWhile t b δ2 := fun q => by
            have : ¬ ∃ n, loopN t b n δ2 ≠ .bad := fun ⟨n, z⟩ => z (q n)
            unfold mWhile; rw [dif_neg this]
          cases f with
          | nx => exact fin h1
          | ct => exact fin h1
          | bk => have := h1 0; simp only [ret] at this; cases this
          | rt s => have := h1 0; simp only [ret] at this; cases this
/-- a for over items -/
def forM (g : TgD) (b : M Flw) : List PyData → M Flw
  | [] => ret .nx
  | d :: ds => bnd (asg g (.dat d)) fun _ => bnd b fun f => match f with
    | .nx => forM g b ds
    | .ct => forM g b ds
    | .bk => ret .nx
    | .rt s => ret (.rt s)
def sFor (it : M (List PyData)) (g : TgD) (b : M Flw) : M Flw := bnd it fun ds => forM g b ds
def itemsOf : PyData → Option (List PyData)
  | .list ds => some ds
  | .tuple ds => some ds
  | .str z => some (z.cps.toList.map fun c => .str ⟨#[c]⟩)
  | _ => none
def itE (m : M Opd) : M (List PyData) := bnd m fun o => bnd (takeD o) fun d => match itemsOf d with
  | some ds => ret ds
  | none => stuck
/-- a comprehension's turns: its own names are empty at each turn's start -/
def wipeD (vs : List Nat) (δ : DS) : DS := vs.foldr (fun i δ => δ.set i none) δ
def compM (g : TgD) (t : M Bool) (e : M Opd) (vs : List Nat) : List PyData → List PyData → M (List PyData)
  | [], acc => ret acc
  | d :: ds, acc => bnd (fun δ => .ok () (wipeD vs δ)) fun _ => bnd (asg g (.dat d)) fun _ => bnd t fun c => if c then bnd e fun o => bnd (takeD o) fun y => if acc.length < sizeLine then compM g t e vs ds (acc ++ [y]) else stuck else compM g t e vs ds acc
/-- the own names of a comprehension get back what they held -/
def backD (vs : List Nat) (δ0 δ : DS) : DS := vs.foldr (fun i δ => δ.set i (at? δ0 i)) δ
def eComp (it : M (List PyData)) (g : TgD) (t : M Bool) (e : M Opd) (vs : List Nat) : M Opd := bnd it fun ds => fun δ => match compM g t e vs ds [] δ with
  | .ok acc δ' => .ok (.val (.lst acc)) (backD vs δ δ')
  | _ => .bad
end Ev

/-! D3: slots against names; the readings of the value semantics; names, operators, tests. -/
namespace Ev
open PySem L2
variable [Tb]

inductive Sl : St → DS → List (V × SV) → Prop
  | nil : Sl [] [] []
  | hole {x : Option V} {σ : St} {δ : DS} {L : List (V × SV)} : Sl σ δ L → Sl (x :: σ) (none :: δ) L
  | full {v : V} {s : SV} {σ : St} {δ : DS} {L : List (V × SV)} : Sl σ δ L → Sl (some v :: σ) (some s :: δ) ((v, s) :: L)
theorem Sl.length {σ : St} {δ : DS} {L : List (V × SV)} (h : Sl σ δ L) : σ.length = δ.length := by
  induction h with
  | nil => rfl
  | hole _ ih => simp [ih]
  | full _ ih => simp [ih]
theorem at?_set_same {δ : DS} {i : Nat} {o : Option SV} (h : i < δ.length) : at? (δ.set i o) i = o := by
  unfold at?; rw [List.getElem?_set_self h]; rfl
theorem at?_lt {δ : DS} {i : Nat} {s : SV} (h : at? δ i = some s) : i < δ.length := by
  unfold at? at h
  cases e : δ[i]? with
  | none => rw [e] at h; cases h
  | some o => exact (List.getElem?_eq_some_iff.mp e).1
/-- a slot that holds something -/
theorem Sl.get {σ : St} {δ : DS} {L : List (V × SV)} (h : Sl σ δ L) : ∀ {i : Nat} {s : SV}, at? δ i = some s →
    ∃ v L1 L2, L = L1 ++ (v, s) :: L2 ∧ σ[i]? = some (some v) ∧ (∀ s', Sl σ (δ.set i (some s')) (L1 ++ (v, s') :: L2)) ∧ Sl σ (δ.set i none) (L1 ++ L2) := by
  induction h with
  | nil => intro i s h; simp [at?] at h
  | @hole x σ δ L h ih =>
    intro i s hs
    cases i with
    | zero => simp [at?] at hs
    | succ i =>
      obtain ⟨v, L1, L2, e, e2, f, g⟩ := ih (i := i) (s := s) (by simpa [at?] using hs)
      exact ⟨v, L1, L2, e, by simpa using e2, fun s' => .hole (f s'), .hole g⟩
  | @full v s0 σ δ L h ih =>
    intro i s hs
    cases i with
    | zero =>
      have e : s0 = s := by simpa [at?] using hs
      subst e
      exact ⟨v, [], L, rfl, rfl, fun s' => .full h, .hole h⟩
    | succ i =>
      obtain ⟨v', L1, L2, e, e2, f, g⟩ := ih (i := i) (s := s) (by simpa [at?] using hs)
      exact ⟨v', (v, s0) :: L1, L2, by rw [e]; rfl, by simpa using e2, fun s' => .full (f s'), .full g⟩
/-- a slot is written -/
theorem Sl.put {σ : St} {δ : DS} {L : List (V × SV)} (h : Sl σ δ L) : ∀ {i : Nat} (v : V) (s : SV), i < σ.length →
    ∃ L1 L2 L3, L = L1 ++ L2 ++ L3 ∧ Sl (σ.set i (some v)) (δ.set i (some s)) (L1 ++ (v, s) :: L3) := by
  induction h with
  | nil => intro i v s h; simp at h
  | @hole x σ δ L h ih =>
    intro i v s hi
    cases i with
    | zero => exact ⟨[], [], L, rfl, .full h⟩
    | succ i =>
      obtain ⟨L1, L2, L3, e, f⟩ := ih (i := i) v s (by simpa using hi)
      exact ⟨L1, L2, L3, e, .hole f⟩
  | @full v0 s0 σ δ L h ih =>
    intro i v s hi
    cases i with
    | zero => exact ⟨[], [(v0, s0)], L, rfl, .full h⟩
    | succ i =>
      obtain ⟨L1, L2, L3, e, f⟩ := ih (i := i) v s (by simpa using hi)
      exact ⟨(v0, s0) :: L1, L2, L3, by rw [e]; rfl, .full f⟩
/-- an empty slot is filled again, the name as it is -/
theorem Sl.fill {σ : St} {δ : DS} {L : List (V × SV)} (h : Sl σ δ L) : ∀ {i : Nat} {v : V} (s : SV), σ[i]? = some (some v) → at? δ i = none →
    ∃ L1 L2, L = L1 ++ L2 ∧ Sl σ (δ.set i (some s)) (L1 ++ (v, s) :: L2) := by
  induction h with
  | nil => intro i v s h; simp at h
  | @hole x σ δ L h ih =>
    intro i v s hi hn
    cases i with
    | zero =>
      have e : x = some v := by simpa using hi
      subst e
      exact ⟨[], L, rfl, .full h⟩
    | succ i =>
      obtain ⟨L1, L2, e, f⟩ := ih (i := i) s (by simpa using hi) (by simpa [at?] using hn)
      exact ⟨L1, L2, e, .hole f⟩
  | @full v0 s0 σ δ L h ih =>
    intro i v s hi hn
    cases i with
    | zero => simp [at?] at hn
    | succ i =>
      obtain ⟨L1, L2, e, f⟩ := ih (i := i) s (by simpa using hi) (by simpa [at?] using hn)
      exact ⟨(v0, s0) :: L1, L2, by rw [e]; rfl, .full f⟩
/-- a slot is emptied -/
theorem Sl.clear {σ : St} {δ : DS} {L : List (V × SV)} (h : Sl σ δ L) : ∀ (i : Nat), ∃ L1 L2 L3, L = L1 ++ L2 ++ L3 ∧ Sl σ (δ.set i none) (L1 ++ L3) := by
  induction h with
  | nil => intro i; exact ⟨[], [], [], rfl, by simpa using Sl.nil⟩
  | @hole x σ δ L h ih =>
    intro i
    cases i with
    | zero => exact ⟨[], [], L, rfl, .hole h⟩
    | succ i =>
      obtain ⟨L1, L2, L3, e, f⟩ := ih i
      exact ⟨L1, L2, L3, e, .hole f⟩
  | @full v0 s0 σ δ L h ih =>
    intro i
    cases i with
    | zero => exact ⟨[], [(v0, s0)], L, rfl, .hole h⟩
    | succ i =>
      obtain ⟨L1, L2, L3, e, f⟩ := ih i
      exact ⟨(v0, s0) :: L1, L2, L3, by rw [e]; rfl, .full f⟩

/-- the state at a place of a def: T, what is held on the way -/
def Ste (K : PySem.W.Frag) (H0 : Hp) (O0 : List Addr) (σ : St) (H : Hp) (δ : DS) (T : List (V × SV)) : Prop := ∃ L, Sl σ δ L ∧ Rel K H0 O0 H (L ++ T)

/-- an exception as the value semantics tells it -/
def ExnOk (K : PySem.W.Frag) (H : Hp) (x : Exn) (cls : Value) (d : Option Addr) : Prop := ∃ C, cls = .ref C ∧ PySem.W.nsIn K mainGlobals x.cls = some (some (.ref C)) ∧
  ((d = none ∧ x.fs = []) ∨ ∃ (dd : Addr) (fs : List (Str × V)) (ds : List PyData), d = some dd ∧ H dd = some (.xd fs) ∧ IsAll K H (fs.map (·.2)) ds ∧ x.fs = (fs.map (·.1)).zip ds)

/-- data that can be read: nobody's, or a thing held alone -/
inductive Opn (K : PySem.W.Frag) (H : Hp) : V → PyData → Prop
  | dat {v : V} {d : PyData} : IsD K H v d → Opn K H v d
  | lst {a : Addr} {vs : List V} {ds : List PyData} : H a = some (.lst vs) → IsAll K H vs ds → Opn K H (.ref a) (.list ds)
  | dic {a : Addr} {kvs : List (Key × V)} {ds : List PyData} : H a = some (.dK kvs) → IsAll K H (kvs.map (·.2)) ds → Opn K H (.ref a) (.dict ((kvs.map fun p => kD p.1).zip ds))
/-- a value that comes out of what changes nothing -/
def Res (K : PySem.W.Frag) (H : Hp) (v : V) (s : SV) (H' : Hp) : Prop := Kp [] H H' ∧ ∃ o, Ent K H' (v, s) o ∧ o.Nodup ∧ ∀ a ∈ o, H a = none

section
variable {K : PySem.W.Frag} {H0 H H' : Hp} {O0 : List Addr} {σ : St} {δ δ' : DS} {T T' : List (V × SV)} {v : V} {s : SV} {d : PyData}
theorem Ent.opn {o : List Addr} (h : Ent K H (v, s) o) (e : s.data = some d) : Opn K H v d := by
  cases h with
  | dat h => cases e; exact .dat h
  | lst h t => cases e; exact .lst h t
  | dic h t => cases e; exact .dic h t
  | src _ _ => cases e
  | obj _ _ _ _ => cases e
  | scr _ => cases e
  | kn _ => cases e
  | tpl h _ t => cases e; exact .dat (.tup (.inl (.inr ⟨_, h⟩)) t)
  | fn _ _ _ => cases e
theorem Ste.drop (h : Ste K H0 O0 σ H δ (T' ++ T)) : Ste K H0 O0 σ H δ T := by
  obtain ⟨L, a, R⟩ := h
  refine ⟨L, a, ?_⟩
  have R' : Rel K H0 O0 H (T' ++ (L ++ T)) := R.perm (by rw [← List.append_assoc, ← List.append_assoc]; exact List.perm_append_comm.append_right _)
  exact R'.drop
theorem Ste.drop1 {e : V × SV} (h : Ste K H0 O0 σ H δ (e :: T)) : Ste K H0 O0 σ H δ T := Ste.drop (T' := [e]) h
theorem Ste.perm (h : Ste K H0 O0 σ H δ T) (p : T.Perm T') : Ste K H0 O0 σ H δ T' := by
  obtain ⟨L, a, R⟩ := h
  exact ⟨L, a, R.perm (p.append_left _)⟩
/-- the things Tc in front are exchanged -/
theorem Ste.step {Tc Tn Tr : List (V × SV)} (h : Ste K H0 O0 σ H δ (Tc ++ Tr)) (k : ∀ oc, Ents K H Tc oc → oc.Nodup → ∃ on, Ents K H' Tn on ∧ on.Nodup ∧ (∀ a ∈ on, a ∈ oc ∨ H a = none) ∧ Kp oc H H') : Ste K H0 O0 σ H' δ (Tn ++ Tr) := by
  obtain ⟨L, a, R⟩ := h
  refine ⟨L, a, ?_⟩
  have R' : Rel K H0 O0 H (Tc ++ (L ++ Tr)) := R.perm (by rw [← List.append_assoc, ← List.append_assoc]; exact List.perm_append_comm.append_right _)
  refine (R'.step k).perm ?_
  rw [← List.append_assoc, ← List.append_assoc]
  exact List.perm_append_comm.append_right _
theorem Ste.res (h : Ste K H0 O0 σ H δ T) (r : Res K H v s H') : Ste K H0 O0 σ H' δ ((v, s) :: T) := by
  obtain ⟨k, o, e, n, f⟩ := r
  refine Ste.step (Tc := []) (Tn := [(v, s)]) h fun oc hc _ => ?_
  cases hc
  exact ⟨o, by simpa using Ents.cons e .nil, n, fun a ha => .inr (f a ha), k⟩
theorem Ste.ent {e : V × SV} (h : Ste K H0 O0 σ H δ T) (m : e ∈ T) : ∃ o, Ent K H e o := by
  obtain ⟨L, _, R⟩ := h
  exact R.ent (List.mem_append_right _ m)
theorem Ste.slot {i : Nat} (h : Ste K H0 O0 σ H δ T) (e : at? δ i = some s) : ∃ v, σ[i]? = some (some v) ∧ ∃ o, Ent K H (v, s) o := by
  obtain ⟨L, a, R⟩ := h
  obtain ⟨v, L1, L2, rfl, e2, _⟩ := a.get e
  exact ⟨v, e2, R.ent (by simp)⟩
theorem Res.dat (k : Kp [] H H') (i : IsD K H' v d) : Res K H v (.dat d) H' := ⟨k, [], .dat i, List.nodup_nil, fun a ha => by simp at ha⟩
theorem Res.same (i : IsD K H v d) : Res K H v (.dat d) H := Res.dat (Kp.refl _ _) i
theorem Res.lst {p : Addr} {vs : List V} {ds : List PyData} (h : H p = none) (i : IsAll K H vs ds) : Res K H (.ref p) (.lst ds) (upd H p (.lst vs)) := by
  have k : Kp [] H (upd H p (.lst vs)) := Kp.new h
  exact ⟨k, [p], .lst upd_same (i.stays (k.stays fun a ha => by simp at ha)), by simp, fun a ha => by simp at ha; subst ha; exact h⟩
theorem Res.tup {p : Addr} {vs : List V} {ds : List PyData} (h : H p = none) (i : IsAll K H vs ds) : Res K H (.ref p) (.dat (.tuple ds)) (upd H p (.tup vs)) := by
  have k : Kp [] H (upd H p (.tup vs)) := Kp.new h
  exact Res.dat k (.tup (.inl (.inl upd_same)) (i.stays (k.stays fun a ha => by simp at ha)))
end

/-! ### readings -/
def OpdV (σ : St) (v : V) : Opd → Prop
  | .val _ => True
  | .slot i => σ[i]? = some (some v)
def tmp (v : V) : Opd → List (V × SV)
  | .val s => [(v, s)]
  | .slot _ => []
def tE (K : PySem.W.Frag) (W : WX) (m : M Opd) : TE := fun σ H Q => ∃ H0 O0 T δ, Ste K H0 O0 σ H δ T ∧ match m δ with
  | .ok o δ' => ∀ v H', OpdV σ v o → Ste K H0 O0 σ H' δ' (tmp v o ++ T) → Q v H'
  | .exn x δ' => ∀ cls d H', ExnOk K H' x cls d → Ste K H0 O0 σ H' δ' T → W cls d σ H'
  | .bad => False
def tT (K : PySem.W.Frag) (W : WX) (m : M Bool) : TT := fun σ H Q => ∃ H0 O0 T δ, Ste K H0 O0 σ H δ T ∧ match m δ with
  | .ok b δ' => ∀ H', Ste K H0 O0 σ H' δ' T → Q b H'
  | .exn x δ' => ∀ cls d H', ExnOk K H' x cls d → Ste K H0 O0 σ H' δ' T → W cls d σ H'
  | .bad => False
/-- the temporaries of a row of operands, the last one in front -/
def tmps : List V → List Opd → List (V × SV)
  | v :: vs, o :: os => tmps vs os ++ tmp v o
  | _, _ => []
inductive OpdVs (σ : St) : List V → List Opd → Prop
  | nil : OpdVs σ [] []
  | cons {v : V} {o : Opd} {vs : List V} {os : List Opd} : OpdV σ v o → OpdVs σ vs os → OpdVs σ (v :: vs) (o :: os)
def tA (K : PySem.W.Frag) (W : WX) (m : M (List Opd)) : TA := fun σ H Q => ∃ H0 O0 T δ, Ste K H0 O0 σ H δ T ∧ match m δ with
  | .ok os δ' => ∀ vs H', OpdVs σ vs os → Ste K H0 O0 σ H' δ' (tmps vs os ++ T) → Q vs H'
  | .exn x δ' => ∀ cls d H', ExnOk K H' x cls d → Ste K H0 O0 σ H' δ' T → W cls d σ H'
  | .bad => False
end Ev
namespace L2
open PySem
theorem PE.imp {X : Cx} {e : Expr} {t t' : TE} (h : PE X e t) (f : ∀ σ H Q, t' σ H Q → t σ H Q) : PE X e t' := ⟨fun pins s σ H Q I q => h.run pins s σ H Q I (f σ H Q q)⟩
theorem PT.imp {X : Cx} {e : Expr} {t t' : TT} (h : PT X e t) (f : ∀ σ H Q, t' σ H Q → t σ H Q) : PT X e t' := ⟨fun pins s σ H Q I q => h.run pins s σ H Q I (f σ H Q q)⟩
theorem PW.imp {X : Cx} {e : Expr} {t t' : TT} (h : PW X e t) (f : ∀ σ H Q, t' σ H Q → t σ H Q) : PW X e t' := ⟨fun wh pins s σ H Q I q => h.run wh pins s σ H Q I (f σ H Q q)⟩
theorem PA.imp {X : Cx} {es : List Expr} {t t' : TA} (h : PA X es t) (f : ∀ σ H Q, t' σ H Q → t σ H Q) : PA X es t' := ⟨fun pos pins s σ H Q I q => h.run pos pins s σ H Q I (f σ H Q q)⟩
end L2
namespace Ev
open PySem L2
variable [Tb]
abbrev SE (X : Cx) (W : WX) (e : Expr) (m : M Opd) : Prop := PE X e (tE X.K W m)
abbrev ST (X : Cx) (W : WX) (e : Expr) (m : M Bool) : Prop := PT X e (tT X.K W m)
abbrev SA (X : Cx) (W : WX) (es : List Expr) (m : M (List Opd)) : Prop := PA X es (tA X.K W m)

section
variable {X : Cx} {W : WX} {pos : Pos}
/-! ### names and constants -/
theorem eSlot_t {K : PySem.W.Frag} {i : Nat} {σ : St} {H : Hp} {Q : VK} (h : tE K W (eSlot i) σ H Q) : tVar i σ H Q := by
  obtain ⟨H0, O0, T, δ, st, hm⟩ := h
  unfold eSlot at hm
  cases e : at? δ i with
  | none => simp only [e] at hm
  | some s =>
    obtain ⟨v, ev, o, en⟩ := st.slot e
    refine ⟨v, ev, ?_⟩
    cases s with
    | dat d =>
      simp only [e] at hm
      cases en with
      | dat hd => exact hm v H True.intro (st.res (Res.same hd))
    | lst ds => simp only [e] at hm; exact hm v H ev st
    | dic kvs => simp only [e] at hm; exact hm v H ev st
    | src S => simp only [e] at hm; exact hm v H ev st
    | obj C fs => simp only [e] at hm; exact hm v H ev st
    | scr ns => simp only [e] at hm; exact hm v H ev st
    | kn o u => simp only [e] at hm; exact hm v H ev st
    | tpl ds =>
      simp only [e] at hm
      cases en with
      | tpl h1 h2 h3 => exact hm _ H True.intro (st.res ⟨Kp.refl _ _, [], .tpl h1 h2 h3, List.nodup_nil, fun a ha => by simp at ha⟩)
    | fn f F ws cs => simp only [e] at hm; exact hm v H ev st
theorem se_name {i : Nat} {x : Str} (hN : X.N[i]? = some x) (hv : Vis X.env.scope x) (hd : (x == ("__debug__" : Str)) = false) (hcd : (x == ("__classdict__" : Str)) = false) : SE X W (.Name x pos) (eSlot i) :=
  (pe_var hN hv hd hcd).imp fun _ _ _ h => eSlot_t h
theorem eDat_t {K : PySem.W.Frag} {d : PyData} {v : V} (hv : ∀ H, IsD K H v d) {σ : St} {H : Hp} {Q : VK} (h : tE K W (eDat d) σ H Q) : tC v σ H Q := by
  obtain ⟨H0, O0, T, δ, st, hm⟩ := h
  exact hm v H True.intro (st.res (Res.same (hv H)))
theorem se_int {i : Int} {k : Nat} : SE X W (.Constant (.int i) k pos) (eDat (.int i)) := pe_int.imp fun _ _ _ h => eDat_t (fun _ => .int i) h
theorem se_bool {b : Bool} {k : Nat} : SE X W (.Constant (.bool b) k pos) (eDat (.bool b)) := pe_bl.imp fun _ _ _ h => eDat_t (fun _ => .bl b) h
theorem se_none {k : Nat} : SE X W (.Constant .none k pos) (eDat .none) := pe_non.imp fun _ _ _ h => eDat_t (fun _ => .non) h
theorem se_str {x : Str} {k : Nat} : SE X W (.Constant (.str x) k pos) (eDat (.str x)) := pe_str.imp fun _ _ _ h => eDat_t (fun _ => .str x) h
theorem se_glob {x : Str} {d : PyData} {v : V} {u : Value} (hg : Gl X x) (hm : X.mg x = some u) (r : RelV v u) (hv : ∀ H, IsD X.K H v d) (hd : (x == ("__debug__" : Str)) = false) : SE X W (.Name x pos) (eDat d) :=
  (pe_glob hg hm r hd).imp fun _ _ _ h => eDat_t hv h

/-! ### rows of operands -/
theorem sa_nil : SA X W [] (evs []) := pa_nil.imp fun σ H Q h => by
  obtain ⟨H0, O0, T, δ, st, hm⟩ := h
  exact hm [] H .nil st
/-- not a starred one -/
def plainE : Expr → Bool
  | .Starred _ _ => false
  | _ => true
theorem star_plain {e : Expr} (h : plainE e = true) (es : List Expr) (env : Env) : starEach (e :: es) env = (false, eval e env) :: starEach es env := by
  cases e <;> first | rfl | cases h
theorem sa_cons {e : Expr} {es : List Expr} {m : M Opd} {ms : M (List Opd)} (hp : plainE e = true) (h : SE X W e m) (hs : SA X W es ms) : SA X W (e :: es) (bnd m fun o => bnd ms fun os => ret (o :: os)) :=
  (pa_cons h hs (star_plain hp es X.env)).imp fun σ H Q h => by
    obtain ⟨H0, O0, T, δ, st, hm⟩ := h
    refine ⟨H0, O0, T, δ, st, ?_⟩
    unfold bnd at hm
    cases e1 : m δ with
    | bad => simp only [e1] at hm
    | exn x δ1 => simp only [e1] at hm; exact hm
    | ok o δ1 =>
      simp only [e1] at hm
      show ∀ v H', OpdV σ v o → Ste X.K H0 O0 σ H' δ1 (tmp v o ++ T) → tA X.K W ms σ H' fun xs H2 => Q (v :: xs) H2
      intro v H1 ov st1
      refine ⟨H0, O0, tmp v o ++ T, δ1, st1, ?_⟩
      cases e2 : ms δ1 with
      | bad => simp only [e2] at hm
      | exn x δ2 => simp only [e2] at hm; exact fun cls d H' a b => hm cls d H' a b.drop
      | ok os δ2 =>
        simp only [e2, ret] at hm
        intro vs H2 ovs st2
        exact hm (v :: vs) H2 (.cons ov ovs) (by simpa [tmps] using st2)
theorem datas_opn {K : PySem.W.Frag} {H0 H : Hp} {O0 : List Addr} {σ : St} {δ : DS} : ∀ {os : List Opd} {vs : List V} {T : List (V × SV)} {ds : List PyData}, OpdVs σ vs os → Ste K H0 O0 σ H δ (tmps vs os ++ T) → datas δ os = some ds → Paired (Opn K H) vs ds
  | [], _, _, _, .nil, _, h => by cases h; exact .nil
  | o :: os, v :: vs, T, ds, .cons a b, st, h => by
    unfold datas at h
    cases e : o.data δ with
    | none => rw [e] at h; cases h
    | some d =>
      rw [e] at h
      cases e2 : datas δ os with
      | none => simp only [e2] at h; cases h
      | some ds' =>
        simp only [e2] at h
        cases h
        refine .cons ?_ (datas_opn (T := tmp v o ++ T) b (by simpa [tmps] using st) e2)
        cases o with
        | val s =>
          obtain ⟨oo, en⟩ := st.ent (e := (v, s)) (by simp [tmps, tmp])
          exact en.opn e
        | slot i =>
          have e' : (at? δ i).bind SV.data = some d := e
          cases e3 : at? δ i with
          | none => rw [e3] at e'; cases e'
          | some s =>
            rw [e3] at e'
            obtain ⟨v', ev, oo, en⟩ := st.slot e3
            have q : v' = v := by
              have a' : σ[i]? = some (some v) := a
              rw [ev] at a'; simpa using a'
            subst q
            exact en.opn e'
/-- what an operation out of data wants -/
def rN (K : PySem.W.Frag) (f : List PyData → Option SV) : List V → Hp → VK → Prop := fun vs H Q => ∃ ds s, Paired (Opn K H) vs ds ∧ f ds = some s ∧ ∀ v H', Res K H v s H' → Q v H'
/-- THE OPERATIONS: operands one behind another, then a rule by values -/
theorem eOp_t {K : PySem.W.Frag} {f : List PyData → Option SV} {m : M (List Opd)} {σ : St} {H : Hp} {Q : VK} (h : tE K W (bnd m (opN f)) σ H Q) : tA K W m σ H fun vs H1 => rN K f vs H1 Q := by
  obtain ⟨H0, O0, T, δ, st, hm⟩ := h
  refine ⟨H0, O0, T, δ, st, ?_⟩
  unfold bnd at hm
  cases e1 : m δ with
  | bad => simp only [e1] at hm
  | exn x δ1 => simp only [e1] at hm; exact hm
  | ok os δ1 =>
    simp only [e1, opN] at hm
    intro vs H1 ovs st1
    cases e2 : datas δ1 os with
    | none => simp only [e2] at hm
    | some ds =>
      simp only [e2] at hm
      cases e3 : f ds with
      | none => simp only [e3] at hm
      | some s =>
        simp only [e3] at hm
        exact ⟨ds, s, datas_opn ovs st1 e2, e3, fun v H' r => hm v H' True.intro (by
          have := st1.res r
          exact (Ste.drop (T' := tmps vs os) (Ste.perm this (by
            have p := (List.perm_append_comm (l₁ := [(v, s)]) (l₂ := tmps vs os)).append_right T
            rw [List.append_assoc, List.append_assoc] at p
            exact p))))⟩
end
end Ev

/-! D4: operators by values. -/
namespace Ev
open PySem L2
variable [Tb]

section
variable {K : PySem.W.Frag} {H : Hp} {v : V} {d : PyData}
theorem Opn.int {i : Int} (h : Opn K H v (.int i)) : v = .int i := by cases h with | dat h => cases h; rfl
theorem Opn.bool {i : Bool} (h : Opn K H v (.bool i)) : v = .bl i := by cases h with | dat h => cases h; rfl
theorem Opn.str {x : Str} (h : Opn K H v (.str x)) : v = .str x := by cases h with | dat h => cases h; rfl
theorem Opn.none (h : Opn K H v .none) : v = .non := by cases h with | dat h => cases h; rfl
theorem Opn.list {ds : List PyData} (h : Opn K H v (.list ds)) : ∃ a vs, v = .ref a ∧ Rd H a (.lst vs) ∧ IsAll K H vs ds := by
  cases h with
  | dat h => cases h with | lst h t => obtain ⟨o, h⟩ := h; exact ⟨_, _, rfl, .inr ⟨o, h⟩, t⟩
  | lst h t => exact ⟨_, _, rfl, .inl h, t⟩
theorem Opn.tuple {ds : List PyData} (h : Opn K H v (.tuple ds)) : ∃ a vs, v = .ref a ∧ SqT K H a vs ∧ IsAll K H vs ds := by
  cases h with
  | dat h => cases h with | tup h t => exact ⟨_, _, rfl, h, t⟩
mutual
theorem IsD.dp : ∀ {d : PyData} {v : V}, IsD K H v d → d.canLay0 = true → Dp K H v d
  | .none, _, .non, _ => .non
  | .bool _, _, .bl b, _ => .bl b
  | .int _, _, .int i, _ => .int i
  | .str _, _, .str x, _ => .str x
  | .list ds, _, .lst h t, c => by
    obtain ⟨o, h⟩ := h
    exact .lst (.inl (.inr ⟨o, h⟩)) (IsAll.dp t (by simpa [PyData.canLay0] using c))
  | .tuple ds, _, .tup h t, c => .tup h (IsAll.dp t (by simpa [PyData.canLay0] using c))
  | .dict _, _, .dic _ _, c => by simp [PyData.canLay0] at c
  | _, _, .exn _ _, c => by simp [PyData.canLay0, xD] at c
  | _, _, .exf _ _ _ _, c => by simp [PyData.canLay0, xD] at c
theorem IsAll.dp : ∀ {ds : List PyData} {vs : List V}, IsAll K H vs ds → PyData.canLayAll0 ds = true → DpAll K H vs ds
  | [], _, .nil, _ => .nil
  | d :: ds, _, .cons h t, c => by
    have c' : d.canLay0 = true ∧ PyData.canLayAll0 ds = true := by simpa [PyData.canLayAll0] using c
    exact .cons (h.dp c'.1) (IsAll.dp t c'.2)
end
theorem Opn.dp (h : Opn K H v d) (c : d.canLay0 = true) : Dp K H v d := by
  cases h with
  | dat h => exact h.dp c
  | lst h t => exact .lst (.inl (.inl h)) (t.dp (by simpa [PyData.canLay0] using c))
  | dic _ _ => simp [PyData.canLay0] at c
end

/-- an operation of two data by values -/
def OpN (X : Cx) (f : Value → Value → Sem Value) (g : List PyData → Option SV) : Prop := OpR X f fun x y H Q => rN X.K g [x, y] H Q
section
variable {X : Cx} {W : WX} {pos : Pos}
theorem two_opn {K : PySem.W.Frag} {H : Hp} {x y : V} {ds : List PyData} (h : Paired (Opn K H) [x, y] ds) : ∃ d e, ds = [d, e] ∧ Opn K H x d ∧ Opn K H y e := by
  cases h with | cons a t => cases t with | cons b t => cases t; exact ⟨_, _, rfl, a, b⟩
theorem one_opn {K : PySem.W.Frag} {H : Hp} {x : V} {ds : List PyData} (h : Paired (Opn K H) [x] ds) : ∃ d, ds = [d] ∧ Opn K H x d := by
  cases h with | cons a t => cases t; exact ⟨_, rfl, a⟩
theorem Inv.lstR {pins : List (Addr × Obj)} {σ : St} {H : Hp} {s : Shared} {l : Addr} {xs : List V} (I : Inv X pins σ H s) (hH : Rd H l (.lst xs)) : xs.length ≤ sizeLine ∧ ∃ (its : List Value) (n : Nat), Vals xs its ∧ xs.length = its.length ∧ s.heap.get? l = some { cls := .type "list", data := .seq its.toArray n } := by
  obtain ⟨z, its, n, r, e⟩ := hH.ok I.hok
  exact ⟨z, its, n, r, r.length, e⟩
theorem opn_add : OpN X (binaryOp .Add) (g2 gAdd) := by
  intro pins s σ H x y v u Q I rx ry h
  obtain ⟨ds, sv, po, e, q⟩ := h
  obtain ⟨d, e', rfl, a, b⟩ := two_opn po
  have e : gAdd d e' = some sv := e
  unfold gAdd at e
  split at e
  · cases e
    cases a.int; cases b.int
    exact op_add pins s σ H _ _ v u Q I rx ry ⟨_, _, rfl, rfl, q _ _ (Res.same (.int _))⟩
  · unfold cat? at e
    split at e
    · cases e
      cases a.str; cases b.str
      exact op_add_str pins s σ H _ _ v u Q I rx ry ⟨_, _, rfl, rfl, by assumption, q _ _ (Res.same (.str _))⟩
    · cases e
  · split at e
    · rename_i hz
      cases e
      obtain ⟨a1, vs, rfl, h1, t1⟩ := a.tuple
      obtain ⟨a2, ws, rfl, h2, t2⟩ := b.tuple
      refine op_catA pins s σ H _ _ v u Q I rx ry ⟨a1, a2, vs, ws, rfl, rfl, h1, h2, by rw [t1.length, t2.length]; exact hz, fun z => ?_, fun z z' => ?_, fun _ _ p hp => ?_⟩
      · subst z; cases t1; exact q _ _ (Res.same (.tup h2 t2))
      · subst z'; cases t2; exact q _ _ (Res.same (.tup h1 (by simpa using t1)))
      · exact q _ _ (Res.tup hp (t1.append t2))
    · cases e
  · split at e
    · rename_i hz
      cases e
      obtain ⟨a1, vs, rfl, h1, t1⟩ := a.list
      obtain ⟨a2, ws, rfl, h2, t2⟩ := b.list
      cases rx
      cases ry
      obtain ⟨z1, its, n, r, hl, e1⟩ := Inv.lstR I h1
      obtain ⟨z2, its2, n2, r2, hl2, e2⟩ := Inv.lstR I h2
      refine PySem.P.add_list e1 e2 ?_ (by rw [List.size_toArray, List.size_toArray, ← hl, ← hl2, t1.length, t2.length]; exact hz)
      have ea : its.toArray ++ its2.toArray = (its ++ its2).toArray := by simp
      rw [ea]
      exact ⟨.ref _, _, I.lnew (t' := s.toks) (r.append r2) (by rw [List.length_append, t1.length, t2.length]; exact hz), rfl, q _ _ (Res.lst I.fresh (t1.append t2))⟩
    · cases e
  · cases e
theorem opn_sub : OpN X (binaryOp .Sub) (g2 gSub) := by
  intro pins s σ H x y v u Q I rx ry h
  obtain ⟨ds, sv, po, e, q⟩ := h
  obtain ⟨d, e', rfl, a, b⟩ := two_opn po
  have e : gSub d e' = some sv := e
  unfold gSub at e
  split at e
  · cases e
    cases a.int; cases b.int
    exact op_sub pins s σ H _ _ v u Q I rx ry ⟨_, _, rfl, rfl, q _ _ (Res.same (.int _))⟩
  · cases e
theorem opn_div : OpN X (binaryOp .FloorDiv) (g2 gDiv) := by
  intro pins s σ H x y v u Q I rx ry h
  obtain ⟨ds, sv, po, e, q⟩ := h
  obtain ⟨d, e', rfl, a, b⟩ := two_opn po
  have e : gDiv d e' = some sv := e
  unfold gDiv at e
  split at e
  · split at e
    · cases e
      cases a.int; cases b.int
      exact op_fdiv pins s σ H _ _ v u Q I rx ry ⟨_, _, rfl, rfl, by assumption, q _ _ (Res.same (.int _))⟩
    · cases e
  · cases e
theorem opn_mod : OpN X (binaryOp .Mod) (g2 gMod) := by
  intro pins s σ H x y v u Q I rx ry h
  obtain ⟨ds, sv, po, e, q⟩ := h
  obtain ⟨d, e', rfl, a, b⟩ := two_opn po
  have e : gMod d e' = some sv := e
  unfold gMod at e
  split at e
  · split at e
    · cases e
      cases a.int; cases b.int
      exact op_mod pins s σ H _ _ v u Q I rx ry ⟨_, _, rfl, rfl, by assumption, q _ _ (Res.same (.int _))⟩
    · cases e
  · cases e
theorem opn_shl : OpN X (binaryOp .LShift) (g2 gShl) := by
  intro pins s σ H x y v u Q I rx ry h
  obtain ⟨ds, sv, po, e, q⟩ := h
  obtain ⟨d, e', rfl, a, b⟩ := two_opn po
  have e : gShl d e' = some sv := e
  unfold gShl at e
  split at e
  · split at e
    · cases e
      cases a.int; cases b.int
      exact op_shl pins s σ H _ _ v u Q I rx ry ⟨_, _, rfl, rfl, by assumption, q _ _ (Res.same (.int _))⟩
    · cases e
  · cases e
theorem opn_shr : OpN X (binaryOp .RShift) (g2 gShr) := by
  intro pins s σ H x y v u Q I rx ry h
  obtain ⟨ds, sv, po, e, q⟩ := h
  obtain ⟨d, e', rfl, a, b⟩ := two_opn po
  have e : gShr d e' = some sv := e
  unfold gShr at e
  split at e
  · split at e
    · cases e
      cases a.int; cases b.int
      exact op_shr pins s σ H _ _ v u Q I rx ry ⟨_, _, rfl, rfl, by assumption, q _ _ (Res.same (.int _))⟩
    · cases e
  · cases e
theorem opn_pow : OpN X (binaryOp .Pow) (g2 gPow) := by
  intro pins s σ H x y v u Q I rx ry h
  obtain ⟨ds, sv, po, e, q⟩ := h
  obtain ⟨d, e', rfl, a, b⟩ := two_opn po
  have e : gPow d e' = some sv := e
  unfold gPow at e
  split at e
  · split at e
    · cases e
      cases a.int; cases b.int
      exact op_pow pins s σ H _ _ v u Q I rx ry ⟨_, _, rfl, rfl, by assumption, q _ _ (Res.same (.int _))⟩
    · cases e
  · cases e
theorem isall_flat {K : PySem.W.Frag} {H : Hp} {vs : List V} {ds : List PyData} (h : IsAll K H vs ds) : ∀ k : Nat, IsAll K H (List.replicate k vs).flatten (List.replicate k ds).flatten
  | 0 => .nil
  | k + 1 => by rw [List.replicate_succ, List.replicate_succ, List.flatten_cons, List.flatten_cons]; exact h.append (isall_flat h k)
open PyProof.Rows PySem.Spec in
/-- xs * k, whoever holds xs -/
theorem rep_list {pins : List (Addr × Obj)} {s : Shared} {σ : L2.St} {H : Hp} {Q : VK} {l : Addr} {xs : List V} {k : Int} {v u : Value} (I : Inv X pins σ H s) (rx : RelV (.ref l) v) (ry : RelV (.int k) u)
    (hH : Rd H l (.lst xs)) (h1 : -(2 ^ 63) ≤ k) (h2 : k < 2 ^ 63) (hz : xs.length * k.toNat ≤ sizeLine)
    (q : ∀ p, H p = none → Q (.ref p) (upd H p (.lst (List.replicate k.toNat xs).flatten))) : wpAny (model X.prog X.w) X.A (binaryOp .Mult v u) (EP X pins σ Q) X.xe s := by
  cases rx
  obtain ⟨t, rfl⟩ := ry
  obtain ⟨z, its, n, r, hl, e⟩ := Inv.lstR I hH
  have n1 : its.toArray.size * k.toNat ≤ sizeLine := by
    rw [List.size_toArray, ← hl]; exact hz
  have n2 : ¬ its.toArray.size * k.toNat > (2 ^ 63 - 1) / 8 := by
    have w : (sizeLine : Nat) ≤ (2 ^ 63 - 1) / 8 := by decide
    omega
  have n3 : ¬ (!Builtin.List.listFitsIndex k) = true := by rw [fitsIndex_both h1 h2]; simp
  have n4 : ¬ Builtin.List.listTooLong (its.toArray.size * k.toNat) = true := by rw [notLongL n1]; simp
  have f0 : ∀ m : Nat, List.foldl (· ++ ·) #[] (List.replicate m its.toArray) = (List.replicate m its).flatten.toArray := fun m => by
    have w := foldl_rep its m []
    rw [List.nil_append] at w
    exact w
  have n5 : List.foldl (fun x y => x ++ y) #[] (List.replicate (if its.toArray.isEmpty = true then 0 else k.toNat) its.toArray) = (List.replicate k.toNat its).flatten.toArray := by
    rw [f0]
    cases its with
    | nil => simp
    | cons a b => simp
  refine wpAny_binaryOp_repeat_ref (T := "list")
    (U := "int") (by decide) ⟨_, e, rfl⟩
    (fun s' => typeIs_int s' k t) noFill_list_mul
    F.fills_int_mul F.slot_int_rmul repeat_list
    F.slot_int_index.lookup ?_
  refine call_meets F.slot_int_rmul (typeIs_int s k t)
    F.entry_int_rmul (F.args_int_rmul_2 _ _)
    (int___rmul___int_list k t l its.toArray n) ⟨e, rfl, ⟨_, e, rfl⟩, ?_⟩
  refine call_meets F.slot_list_mul ⟨_, e, rfl⟩
    F.entry_list_mul (F.args_list_mul_2 _ _)
    (AutoListH.list___mul___list_int_3 l its.toArray n k t n3 n2 n4) ⟨e, ?_⟩
  rw [n5]
  exact ⟨.ref _, _, I.lnew (t' := s.toks) (r.rep k.toNat) (by rw [PyProof.Rows.lm_len_rep_flat, Nat.mul_comm]; exact hz), rfl, q _ I.fresh⟩
theorem mulOk_of {x : Str} {k : Int} (c : 1 ≤ k ∧ k ≤ 1000 ∧ x.length ≤ 1000) : MulOk x k := by
  obtain ⟨c1, c2, c3⟩ := c
  have hm : (x.length : Int) * k ≤ 1000 * 1000 := Int.mul_le_mul (by omega) c2 (by omega) (by omega)
  refine ⟨by simp; omega, fun _ _ h => ?_, fun _ _ => ?_⟩
  · have := (Int.le_ediv_iff_mul_le (show (0 : Int) < k by omega)).mpr (show (x.length : Int) * k ≤ 2 ^ 63 - 1 by omega)
    omega
  · have : x.length * k.toNat ≤ 1000 * 1000 := Nat.mul_le_mul c3 (by omega)
    refine decide_eq_false ?_
    have := sizeLine_eq
    omega
theorem opn_mul : OpN X (binaryOp .Mult) (g2 gMul) := by
  intro pins s σ H x y v u Q I rx ry h
  obtain ⟨ds, sv, po, e, q⟩ := h
  obtain ⟨d, e', rfl, a, b⟩ := two_opn po
  have e : gMul d e' = some sv := e
  unfold gMul at e
  split at e
  · split at e
    · cases e
      cases a.int; cases b.int
      exact op_mul pins s σ H _ _ v u Q I rx ry ⟨_, _, rfl, rfl, by assumption, q _ _ (Res.same (.int _))⟩
    · cases e
  · split at e
    · rename_i z k c
      cases e
      cases a.str; cases b.int
      obtain ⟨t1, rfl⟩ := rx
      obtain ⟨t2, rfl⟩ := ry
      exact SB.mul (mulOk_of c) fun t' k' => ⟨.str _, H, I.tok _, ⟨_, rfl⟩, q _ _ (Res.same (.str _))⟩
    · cases e
  · split at e
    · rename_i xs k _ hz
      cases e
      cases b.int
      obtain ⟨a1, vs, rfl, h1, t1⟩ := a.list
      exact rep_list I rx ry h1 hz.1 hz.2.1 (by rw [t1.length]; exact hz.2.2) fun p hp => q _ _ (Res.lst hp (isall_flat t1 _))
    · cases e
  · cases e
end
end Ev

/-! D5: comparisons, items, slices by values. -/
namespace Ev
open PySem L2
variable [Tb]
section
variable {X : Cx}
theorem Opn.nn {K : PySem.W.Frag} {H : Hp} {v : V} {d : PyData} (h : Opn K H v d) : decide (v = V.non) = isNn d := by
  cases h with
  | dat h => cases h <;> simp [isNn, xD]
  | lst _ _ => simp [isNn]
  | dic _ _ => simp [isNn]
theorem opn_eq (hu : X.A.units + 65 < cLine) : OpN X (compareOp .Eq) (gB2 eq?) := by
  intro pins s σ H x y v u Q I rx ry h
  obtain ⟨ds, sv, po, e, q⟩ := h
  obtain ⟨d, e', rfl, a, b⟩ := two_opn po
  have e : (eq? d e').map (fun b => SV.dat (.bool b)) = some sv := e
  unfold eq? at e
  split at e
  · rename_i hc
    simp only [Bool.and_eq_true, decide_eq_true_eq] at hc
    cases e
    obtain ⟨as, r1⟩ := Dp.reads I d x v (a.dp hc.1.1) rx
    obtain ⟨bs, r2⟩ := Dp.reads I e' y u (b.dp hc.1.2) ry
    exact SeqAt.compareEq_reads r1 r2 hc.1.1 hc.1.2 (by omega) ⟨.bl _, H, I, rfl, q _ _ (Res.same (.bl _))⟩
  · unfold strEq? at e
    split at e
    · cases e
      cases a with | dat a => cases a with | str => cases b with | dat b => cases b with | str =>
        obtain ⟨t, rfl⟩ := rx
        obtain ⟨t', rfl⟩ := ry
        exact PySem.P.eq_str ⟨.bl _, H, I, rfl, q _ _ (Res.same (.bl _))⟩
    · cases e
theorem opn_ne (hu : X.A.units + 65 < cLine) : OpN X (compareOp .NotEq) (gB2 fun d e => (eq? d e).map (!·)) := by
  intro pins s σ H x y v u Q I rx ry h
  obtain ⟨ds, sv, po, e, q⟩ := h
  obtain ⟨d, e', rfl, a, b⟩ := two_opn po
  have e : ((eq? d e').map (!·)).map (fun b => SV.dat (.bool b)) = some sv := e
  unfold eq? at e
  split at e
  · rename_i hc
    simp only [Bool.and_eq_true, decide_eq_true_eq] at hc
    cases e
    obtain ⟨as, r1⟩ := Dp.reads I d x v (a.dp hc.1.1) rx
    obtain ⟨bs, r2⟩ := Dp.reads I e' y u (b.dp hc.1.2) ry
    exact SeqAt.compareNe_reads r1 r2 hc.1.1 hc.1.2 (by omega) ⟨.bl _, H, I, rfl, q _ _ (Res.same (.bl _))⟩
  · unfold strEq? at e
    split at e
    · cases e
      cases a with | dat a => cases a with | str => cases b with | dat b => cases b with | str =>
        obtain ⟨t, rfl⟩ := rx
        obtain ⟨t', rfl⟩ := ry
        exact PySem.P.ne_str ⟨.bl _, H, I, rfl, q _ _ (Res.same (.bl _))⟩
    · cases e
theorem opn_in (hu : X.A.units + 65 < cLine) : OpN X (compareOp .In) (gB2 in?) := by
  intro pins s σ H x y v u Q I rx ry h
  obtain ⟨ds, sv, po, e, q⟩ := h
  obtain ⟨d, e', rfl, a, b⟩ := two_opn po
  have e : (in? d e').map (fun b => SV.dat (.bool b)) = some sv := e
  unfold in? at e
  split at e
  · split at e
    · cases e
      cases a.str; cases b.str
      exact op_in_str pins s σ H _ _ v u Q I rx ry ⟨_, _, rfl, rfl, q _ _ (Res.same (.bl _))⟩
    · cases e
  · unfold inAll? at e
    split at e
    · rename_i ys hc
      simp only [Bool.and_eq_true, decide_eq_true_eq] at hc
      cases e
      obtain ⟨as, r1⟩ := Dp.reads I d x v (a.dp hc.1.1) rx
      obtain ⟨bs, r2⟩ := Dp.reads I _ y u (b.dp (by simpa [PyData.canLay0] using hc.1.2)) ry
      exact SeqAt.in_list_reads r2 r1 hc.1.2 hc.1.1 (by omega) ⟨.bl _, H, I, rfl, q _ _ (Res.same (.bl _))⟩
    · cases e
  · unfold inAll? at e
    split at e
    · rename_i ys hc
      simp only [Bool.and_eq_true, decide_eq_true_eq] at hc
      cases e
      obtain ⟨as, r1⟩ := Dp.reads I d x v (a.dp hc.1.1) rx
      obtain ⟨bs, r2⟩ := Dp.reads I _ y u (b.dp (by simpa [PyData.canLay0] using hc.1.2)) ry
      exact SeqAt.in_tuple_reads r2 r1 hc.1.2 hc.1.1 (by omega) ⟨.bl _, H, I, rfl, q _ _ (Res.same (.bl _))⟩
    · cases e
  · cases e
theorem opn_notIn (hu : X.A.units + 65 < cLine) : OpN X (compareOp .NotIn) (gB2 fun d e => (in? d e).map (!·)) := by
  intro pins s σ H x y v u Q I rx ry h
  obtain ⟨ds, sv, po, e, q⟩ := h
  obtain ⟨d, e', rfl, a, b⟩ := two_opn po
  have e : ((in? d e').map (!·)).map (fun b => SV.dat (.bool b)) = some sv := e
  unfold in? at e
  split at e
  · split at e
    · cases e
      cases a.str; cases b.str
      exact L2.op_notIn_str pins s σ H _ _ v u Q I rx ry ⟨_, _, rfl, rfl, q _ _ (Res.same (.bl _))⟩
    · cases e
  · unfold inAll? at e
    split at e
    · rename_i ys hc
      simp only [Bool.and_eq_true, decide_eq_true_eq] at hc
      cases e
      obtain ⟨as, r1⟩ := Dp.reads I d x v (a.dp hc.1.1) rx
      obtain ⟨bs, r2⟩ := Dp.reads I _ y u (b.dp (by simpa [PyData.canLay0] using hc.1.2)) ry
      exact SeqAt.notIn_list_reads r2 r1 hc.1.2 hc.1.1 (by omega) ⟨.bl _, H, I, rfl, q _ _ (Res.same (.bl _))⟩
    · cases e
  · unfold inAll? at e
    split at e
    · rename_i ys hc
      simp only [Bool.and_eq_true, decide_eq_true_eq] at hc
      cases e
      obtain ⟨as, r1⟩ := Dp.reads I d x v (a.dp hc.1.1) rx
      obtain ⟨bs, r2⟩ := Dp.reads I _ y u (b.dp (by simpa [PyData.canLay0] using hc.1.2)) ry
      exact SeqAt.notIn_tuple_reads r2 r1 hc.1.2 hc.1.1 (by omega) ⟨.bl _, H, I, rfl, q _ _ (Res.same (.bl _))⟩
    · cases e
  · cases e
theorem opn_is : OpN X (compareOp .Is) (gB2 is?) := by
  intro pins s σ H x y v u Q I rx ry h
  obtain ⟨ds, sv, po, e, q⟩ := h
  obtain ⟨d, e', rfl, a, b⟩ := two_opn po
  have e : (is? d e').map (fun b => SV.dat (.bool b)) = some sv := e
  unfold is? at e
  split at e
  · cases e
    cases a.bool; cases b.bool
    exact op_is_bl pins s σ H _ _ v u Q I rx ry ⟨_, _, rfl, rfl, q _ _ (Res.same (.bl _))⟩
  · cases e
    cases b.none
    refine op_isN pins s σ H _ _ v u Q I rx ry ⟨rfl, ?_⟩
    rw [a.nn]
    exact q _ _ (Res.same (.bl _))
  · cases e
theorem opn_isNot : OpN X (compareOp .IsNot) (gB2 fun d e => (is? d e).map (!·)) := by
  intro pins s σ H x y v u Q I rx ry h
  obtain ⟨ds, sv, po, e, q⟩ := h
  obtain ⟨d, e', rfl, a, b⟩ := two_opn po
  have e : ((is? d e').map (!·)).map (fun b => SV.dat (.bool b)) = some sv := e
  unfold is? at e
  split at e
  · cases e
    cases a.bool; cases b.bool
    exact op_isnot_bl pins s σ H _ _ v u Q I rx ry ⟨_, _, rfl, rfl, q _ _ (Res.same (.bl _))⟩
  · cases e
    cases b.none
    refine op_notN pins s σ H _ _ v u Q I rx ry ⟨rfl, ?_⟩
    rw [a.nn]
    exact q _ _ (Res.same (.bl _))
  · cases e
theorem opn_ord {op : CmpOp} (fi : Int → Int → Bool) (fs : Str → Str → Bool) (hi : OpR X (compareOp op) (rI0 fun i j => .bl (fi i j))) (hs : OpR X (compareOp op) (fun x y H Q => ∃ i j, x = .str i ∧ y = .str j ∧ Q (.bl (fs i j)) H)) :
    OpN X (compareOp op) (gB2 fun d e => match d, e with | .int i, .int j => some (fi i j) | .str x, .str y => some (fs x y) | _, _ => none) := by
  intro pins s σ H x y v u Q I rx ry h
  obtain ⟨ds, sv, po, e, q⟩ := h
  obtain ⟨d, e', rfl, a, b⟩ := two_opn po
  have e : (match d, e' with | .int i, .int j => some (fi i j) | .str x, .str y => some (fs x y) | _, _ => none).map (fun b => SV.dat (.bool b)) = some sv := e
  split at e
  · cases e
    cases a.int; cases b.int
    exact hi pins s σ H _ _ v u Q I rx ry ⟨_, _, rfl, rfl, q _ _ (Res.same (.bl _))⟩
  · cases e
    cases a.str; cases b.str
    exact hs pins s σ H _ _ v u Q I rx ry ⟨_, _, rfl, rfl, q _ _ (Res.same (.bl _))⟩
  · cases e
theorem opn_cmp (hu : X.A.units + 65 < cLine) : ∀ op : CmpOp, OpN X (compareOp op) (gB2 (gCmp op))
  | .Eq => opn_eq hu
  | .NotEq => opn_ne hu
  | .Lt => opn_ord _ _ op_lt op_lt_str
  | .LtE => opn_ord _ _ op_le op_le_str
  | .Gt => opn_ord _ _ op_gt op_gt_str
  | .GtE => opn_ord _ _ op_ge op_ge_str
  | .Is => opn_is
  | .IsNot => opn_isNot
  | .In => opn_in hu
  | .NotIn => opn_notIn hu
theorem opn_bin : ∀ op : Operator, OpN X (binaryOp op) (g2 (gBin op))
  | .Add => opn_add
  | .Sub => opn_sub
  | .Mult => opn_mul
  | .FloorDiv => opn_div
  | .Mod => opn_mod
  | .LShift => opn_shl
  | .RShift => opn_shr
  | .Pow => opn_pow
  | .MatMult | .Div | .BitOr | .BitXor | .BitAnd => by
    intro pins s σ H x y v u Q I rx ry h
    obtain ⟨ds, sv, po, e, q⟩ := h
    obtain ⟨d, e', rfl, a, b⟩ := two_opn po
    cases e
/-- an item -/
theorem ixn : IxR X fun x y H Q => rN X.K (g2 gIdx) [x, y] H Q := by
  intro value slice pins s σ H x y v u Q I rx ry h hs
  obtain ⟨ds, sv, po, e, q⟩ := h
  obtain ⟨d, e', rfl, a, b⟩ := two_opn po
  have e : gIdx d e' = some sv := e
  unfold gIdx at e
  split at e
  · cases b.int
    obtain ⟨a1, vs, rfl, h1, t1⟩ := a.list
    cases e1 : atI _ _ with
    | none => rw [e1] at e; cases e
    | some z =>
      rw [e1] at e
      cases e
      unfold atI at e1
      cases e2 : ixN _ _ with
      | none => rw [e2] at e1; cases e1
      | some j =>
        rw [e2] at e1
        obtain ⟨w, f1, f2⟩ := t1.get e1
        refine ix_list value slice pins s σ H _ _ v u Q I rx ry ⟨a1, vs, _, w, rfl, rfl, .inl h1, ?_, q _ _ (Res.same f2)⟩ hs
        unfold atI
        rw [t1.length, e2]
        exact f1
  · cases b.int
    obtain ⟨a1, vs, rfl, h1, t1⟩ := a.tuple
    cases e1 : atI _ _ with
    | none => rw [e1] at e; cases e
    | some z =>
      rw [e1] at e
      cases e
      unfold atI at e1
      cases e2 : ixN _ _ with
      | none => rw [e2] at e1; cases e1
      | some j =>
        rw [e2] at e1
        obtain ⟨w, f1, f2⟩ := t1.get e1
        refine ix_tup value slice pins s σ H _ _ v u Q I rx ry ⟨a1, vs, _, w, rfl, rfl, h1, ?_, q _ _ (Res.same f2)⟩ hs
        unfold atI
        rw [t1.length, e2]
        exact f1
  · split at e
    · rename_i hz
      cases b.int
      cases a.str
      cases e1 : atI _ _ with
      | none => rw [e1] at e; cases e
      | some z =>
        rw [e1] at e
        cases e
        exact ix_str value slice pins s σ H _ _ v u Q I rx ry ⟨_, _, _, rfl, rfl, hz, e1, q _ _ (Res.same (.str _))⟩ hs
    · cases e
  · cases e
theorem isall_cut {K : PySem.W.Frag} {H : Hp} {vs : List V} {ds : List PyData} (h : IsAll K H vs ds) (lo hi : Option Int) : IsAll K H (cutV vs lo hi) (cutD ds lo hi) := by
  unfold cutV cutD
  rw [h.length]
  exact (h.drop _).take _
theorem cut_all {α : Type} (xs : List α) (lo hi : Option Int) (h : HT.sIx xs.length 0 lo = 0 ∧ HT.sIx xs.length xs.length hi = xs.length) : cutD xs lo hi = xs := by
  unfold cutD
  rw [h.1, h.2]
  simp
/-- a slice's reading, by data -/
def rCutD (K : PySem.W.Frag) : V → Option Int → Option Int → Hp → VK → Prop := fun x lo hi H Q => ∃ d s, Opn K H x d ∧ (match d with
    | .list xs => s = SV.lst (cutD xs lo hi)
    | .tuple xs => s = .dat (.tuple (cutD xs lo hi))
    | .str z => z.length ≤ sizeLine ∧ s = .dat (.str (cutS z lo hi))
    | _ => False) ∧ ∀ v H', Res K H v s H' → Q v H'
theorem sln : SlR X (rCutD X.K) := by
  intro pins s σ H x v vl vu lo hi sl Q I rx hs pl pu h
  obtain ⟨d, sv, a, e, q⟩ := h
  cases d with
  | list xs =>
    have e : sv = SV.lst (cutD xs lo hi) := e
    subst e
    obtain ⟨a1, vs, rfl, h1, t1⟩ := a.list
    exact sl_list pins s σ H _ v vl vu lo hi sl Q I rx hs pl pu ⟨a1, vs, rfl, .inl h1, fun p hp => q _ _ (Res.lst hp (isall_cut t1 lo hi))⟩
  | tuple xs =>
    have e : sv = .dat (.tuple (cutD xs lo hi)) := e
    subst e
    obtain ⟨a1, vs, rfl, h1, t1⟩ := a.tuple
    refine sl_tupA pins s σ H _ v vl vu lo hi sl Q I rx hs pl pu ⟨a1, vs, rfl, h1, fun z => ?_, fun z p hp => q _ _ (Res.tup hp (isall_cut t1 lo hi))⟩
    rw [t1.length] at z
    rw [cut_all xs lo hi z] at q
    exact q _ _ (Res.same (.tup h1 t1))
  | str z =>
    have e : z.length ≤ sizeLine ∧ sv = .dat (.str (cutS z lo hi)) := e
    obtain ⟨hz, rfl⟩ := e
    cases a.str
    exact sl_str pins s σ H _ v vl vu lo hi sl Q I rx hs pl pu ⟨z, rfl, hz, q _ _ (Res.same (.str _))⟩
  | none => exact False.elim e
  | bool _ => exact False.elim e
  | int _ => exact False.elim e
  | dict _ => exact False.elim e
end
end Ev

/-! D6: expressions. -/
namespace Ev
open PySem L2

/-! ### things become nobody's on the way -/
inductive Gh (Q : Hp → Prop) : Hp → Prop
  | done {H : Hp} : Q H → Gh Q H
  | frz {H : Hp} {a : Addr} {u : HO} : H a = some u → Mut (some u) → (∀ od, Gh Q (upd H a (.frz od u))) → Gh Q H
theorem Inv.gh {X : Cx} {pins : List (Addr × Obj)} {σ : St} {H : Hp} {s : Shared} {Q : Hp → Prop} (g : Gh Q H) (I : Inv X pins σ H s) : ∃ H', Inv X pins σ H' s ∧ Q H' := by
  induction g with
  | done q => exact ⟨_, I, q⟩
  | frz h m _ ih =>
    obtain ⟨od, I1⟩ := I.lock h m
    exact ih od I1
theorem Gh.mono {Q Q' : Hp → Prop} {H : Hp} (g : Gh Q H) (f : ∀ H', Q H' → Q' H') : Gh Q' H := by
  induction g with
  | done q => exact .done (f _ q)
  | frz h m _ ih => exact .frz h m ih
theorem Gh.bind {Q Q' : Hp → Prop} {H : Hp} (g : Gh Q H) (f : ∀ H', Q H' → Gh Q' H') : Gh Q' H := by
  induction g with
  | done q => exact f _ q
  | frz h m _ ih => exact .frz h m ih
end Ev
namespace L2
open PySem Ev
theorem PE.gh {X : Cx} {e : Expr} {t : TE} (h : PE X e t) : PE X e (fun σ H Q => t σ H fun v H' => Gh (Q v) H') := ⟨fun pins s σ H Q I q =>
  thn (h.run pins s σ H _ I q) fun u s1 ⟨v, H1, I1, r, g⟩ => let ⟨H2, I2, q2⟩ := Ev.Inv.gh g I1; ⟨v, H2, I2, r, q2⟩⟩
theorem PA.gh {X : Cx} {es : List Expr} {t : TA} (h : PA X es t) : PA X es (fun σ H Q => t σ H fun v H' => Gh (Q v) H') := ⟨fun pos pins s σ H Q I q =>
  thn (h.run pos pins s σ H _ I q) fun u s1 ⟨v, H1, I1, r, g⟩ => let ⟨H2, I2, q2⟩ := Ev.Inv.gh g I1; ⟨v, H2, I2, r, q2⟩⟩
end L2
namespace Ev
open PySem L2
variable [Tb]
section
variable {K : PySem.W.Frag} {H0 H H' : Hp} {O0 : List Addr} {σ : St} {δ δ' : DS} {T T' : List (V × SV)} {v : V} {s : SV} {d : PyData} {W : WX}
theorem Ent.dic_mem {a : Addr} {z : List (PyData × PyData)} {o : List Addr} (c : Ent K H (V.ref a, .dic z) o) : a ∈ o := by
  generalize hz : SV.dic z = w at c
  generalize hv : V.ref a = x at c
  cases c with
  | dic _ _ => cases hv; exact List.mem_cons_self
  | _ => cases hz
theorem kp_frz {a : Addr} {od : Obj} {u : HO} : Kp [a] H (upd H a (.frz od u)) := Kp.at (by simp)
/-- a thing held in front becomes nobody's -/
theorem Ste.freeze (h : Ste K H0 O0 σ H δ ((v, s) :: T)) (e : s.data = some d) {Q : Hp → Prop} (q : ∀ H', Stays H H' → Ste K H0 O0 σ H' δ ((v, .dat d) :: T) → IsD K H' v d → Q H') : Gh Q H := by
  obtain ⟨o, en⟩ := h.ent (e := (v, s)) (by simp)
  cases en with
  | dat i => cases e; exact .done (q H (Stays.refl _) h i)
  | @lst a vs ds h1 t1 =>
    cases e
    refine .frz h1 True.intro fun od => .done (q _ ?_ ?_ ?_)
    · exact (kp_frz (a := a)).stays fun b hb => by simp at hb; subst hb; exact ⟨_, h1, by simp, by simp, by simp, fixed_lst⟩
    · refine Ste.step (Tc := [(V.ref a, .lst ds)]) (Tn := [(V.ref a, .dat (.list ds))]) h fun oc hc _ => ?_
      cases hc with
      | cons c n =>
        cases n
        cases c with
        | lst h2 t2 =>
          rw [h1] at h2; cases h2
          refine ⟨[], .cons (.dat (.lst ⟨od, upd_same⟩ (t2.stays ?_))) .nil, List.nodup_nil, fun b hb => by simp at hb, by simpa using kp_frz⟩
          exact (kp_frz (a := a)).stays fun b hb => by simp at hb; subst hb; exact ⟨_, h1, by simp, by simp, by simp, fixed_lst⟩
    · exact .lst ⟨od, upd_same⟩ (t1.stays ((kp_frz (a := a)).stays fun b hb => by simp at hb; subst hb; exact ⟨_, h1, by simp, by simp, by simp, fixed_lst⟩))
  | @dic a kvs ds h1 t1 =>
    cases e
    refine .frz h1 True.intro fun od => .done (q _ ?_ ?_ ?_)
    · exact (kp_frz (a := a)).stays fun b hb => by simp at hb; subst hb; exact ⟨_, h1, by simp, by simp, by simp, fixed_dK⟩
    · refine Ste.step (Tc := [(V.ref a, .dic _)]) (Tn := [(V.ref a, .dat (.dict _))]) h fun oc hc nd => ?_
      cases hc with
      | cons c n =>
        cases n
        refine ⟨[], .cons (.dat (.dic (o := od) upd_same (t1.stays ?_))) .nil, List.nodup_nil, fun b hb => by simp at hb, ?_⟩
        · exact (kp_frz (a := a)).stays fun b hb => by simp at hb; subst hb; exact ⟨_, h1, by simp, by simp, by simp, fixed_dK⟩
        · exact Kp.mono kp_frz fun b hb => by simp at hb; subst hb; simpa using c.dic_mem
    · exact .dic (o := od) upd_same (t1.stays ((kp_frz (a := a)).stays fun b hb => by simp at hb; subst hb; exact ⟨_, h1, by simp, by simp, by simp, fixed_dK⟩))
  | src _ _ => cases e
  | obj _ _ _ _ => cases e
  | scr _ => cases e
  | kn _ => cases e
  | @tpl a o xs ds h1 h2 h3 =>
    cases e
    have iv : IsD K H (.ref a) (.tuple ds) := .tup (.inl (.inr ⟨_, h1⟩)) h3
    refine .done (q H (Stays.refl H) ?_ iv)
    refine Ste.step (Tc := [(V.ref a, .tpl ds)]) (Tn := [(V.ref a, .dat (.tuple ds))]) h fun oc hc nd => ?_
    cases hc with
    | cons c n =>
      cases n
      cases c with
      | tpl k1 k2 k3 => exact ⟨[], .cons (.dat (.tup (.inl (.inr ⟨_, k1⟩)) k3)) .nil, List.nodup_nil, fun b hb => by simp at hb, Kp.refl _ _⟩
  | fn _ _ _ => cases e
/-- the same of a thing in a slot -/
theorem Ste.freezeAt {i : Nat} (h : Ste K H0 O0 σ H δ T) (hi : at? δ i = some s) (hv : σ[i]? = some (some v)) (e : s.data = some d) {Q : Hp → Prop}
    (q : ∀ H', Stays H H' → Ste K H0 O0 σ H' (δ.set i (some (.dat d))) T → IsD K H' v d → Q H') : Gh Q H := by
  obtain ⟨L, a, R⟩ := h
  obtain ⟨v', L1, L2, rfl, ev, f, g⟩ := a.get hi
  have q' : v' = v := by rw [hv] at ev; cases ev; rfl
  subst q'
  have h1 : Ste K H0 O0 σ H (δ.set i none) ((v', s) :: T) := ⟨L1 ++ L2, g, R.perm (by
    have p : (L1 ++ (v', s) :: L2 ++ T).Perm ((v', s) :: (L1 ++ L2 ++ T)) := by
      rw [List.append_assoc, List.append_assoc]
      exact List.perm_middle
    have p2 : (L1 ++ L2 ++ (v', s) :: T).Perm ((v', s) :: (L1 ++ L2 ++ T)) := List.perm_middle
    exact p.trans p2.symm)⟩
  refine h1.freeze e fun H' st h2 i2 => q H' st ?_ i2
  obtain ⟨L', a', R'⟩ := h2
  have hn : at? (δ.set i none) i = none := at?_set_same (at?_lt hi)
  obtain ⟨M1, M2, rfl, b⟩ := a'.fill (.dat d) hv hn
  rw [List.set_set] at b
  refine ⟨_, b, R'.perm ?_⟩
  have p : (M1 ++ (v', SV.dat d) :: M2 ++ T).Perm ((v', SV.dat d) :: (M1 ++ M2 ++ T)) := by
    rw [List.append_assoc, List.append_assoc]
    exact List.perm_middle
  exact (List.perm_middle).trans p.symm
theorem take_gh {o : Opd} (ov : OpdV σ v o) (h : Ste K H0 O0 σ H δ (tmp v o ++ T)) {s' : SV} (e : take o δ = .ok s' δ') {Q : Hp → Prop} (q : ∀ H', Stays H H' → Ste K H0 O0 σ H' δ' ((v, s') :: T) → Q H') : Gh Q H := by
  cases o with
  | val s =>
    have e : R.ok s δ = R.ok s' δ' := e
    cases e
    exact .done (q H (Stays.refl _) h)
  | slot i =>
    unfold take at e
    cases e1 : at? δ i with
    | none => simp only [e1, Option.bind_none] at e; cases e
    | some s0 =>
      cases e2 : s0.data with
      | none => simp only [e1, Option.bind_some, e2] at e; cases e
      | some d =>
        simp only [e1, Option.bind_some, e2] at e
        cases e
        exact Ste.freezeAt (T := T) h e1 ov e2 fun H' st h1 i1 => q H' st (h1.res (Res.same i1))
theorem takeD_gh {o : Opd} (ov : OpdV σ v o) (h : Ste K H0 O0 σ H δ (tmp v o ++ T)) (e : takeD o δ = .ok d δ') {Q : Hp → Prop} (q : ∀ H', Stays H H' → Ste K H0 O0 σ H' δ' T → IsD K H' v d → Q H') : Gh Q H := by
  unfold takeD bnd at e
  cases e1 : take o δ with
  | bad => simp only [e1] at e; cases e
  | exn x δ1 => simp only [e1] at e; cases e
  | ok s1 δ1 =>
    simp only [e1] at e
    refine (take_gh (Q := fun H' => Stays H H' ∧ Ste K H0 O0 σ H' δ1 ((v, s1) :: T)) ov h e1 fun H' st h1 => ⟨st, h1⟩).bind fun H1 ⟨st, h1⟩ => ?_
    cases e2 : s1.data with
    | none => simp only [e2] at e; cases e
    | some d1 =>
      simp only [e2] at e
      cases e
      exact h1.freeze e2 fun H' st' h2 i2 => q H' (st.trans st') h2.drop1 i2
theorem takes_gh : ∀ {os : List Opd} {vs : List V} {T : List (V × SV)} {δ δ' : DS} {H : Hp} {ds : List PyData}, OpdVs σ vs os → Ste K H0 O0 σ H δ (tmps vs os ++ T) → takes os δ = .ok ds δ' → ∀ {Q : Hp → Prop},
    (∀ H', Stays H H' → Ste K H0 O0 σ H' δ' T → IsAll K H' vs ds → Q H') → Gh Q H
  | [], _, _, _, _, H, _, .nil, h, e, Q, q => by cases e; exact .done (q H (Stays.refl _) h .nil)
  | o :: os, v :: vs, T, δ, δ', H, ds, .cons ov ovs, h, e, Q, q => by
    unfold takes bnd at e
    cases e1 : takeD o δ with
    | bad => simp only [e1] at e; cases e
    | exn x δ1 => simp only [e1] at e; cases e
    | ok d δ1 =>
      simp only [e1] at e
      cases e2 : takes os δ1 with
      | bad => simp only [e2] at e; cases e
      | exn x δ2 => simp only [e2] at e; cases e
      | ok ds' δ2 =>
        simp only [e2, ret] at e
        cases e
        have h' : Ste K H0 O0 σ H δ (tmp v o ++ (tmps vs os ++ T)) := h.perm (by
          show (tmps vs os ++ tmp v o ++ T).Perm _
          rw [← List.append_assoc]
          exact List.perm_append_comm.append_right _)
        refine (takeD_gh (Q := fun H' => Stays H H' ∧ Ste K H0 O0 σ H' δ1 (tmps vs os ++ T) ∧ IsD K H' v d) ov h' e1 fun H' st h1 i1 => ⟨st, h1, i1⟩).bind fun H1 ⟨st, h1, i1⟩ => ?_
        exact takes_gh ovs h1 e2 fun H' st' h2 i2 => q H' (st.trans st') h2 (.cons (i1.stays st') i2)
end

section
variable {X : Cx} {W : WX} {pos : Pos} {K : PySem.W.Frag}
/-! ### the readings one behind another -/
theorem tA_nil {σ : St} {H : Hp} {Q : List V → Hp → Prop} (h : tA K W (ret []) σ H Q) : Q [] H := by
  obtain ⟨H0, O0, T, δ, st, hm⟩ := h
  exact hm [] H .nil st
theorem tA_cons {m : M Opd} {ms : M (List Opd)} {σ : St} {H : Hp} {Q : List V → Hp → Prop} (h : tA K W (bnd m fun o => bnd ms fun os => ret (o :: os)) σ H Q) :
    tE K W m σ H fun v H1 => tA K W ms σ H1 fun vs H2 => Q (v :: vs) H2 := by
  obtain ⟨H0, O0, T, δ, st, hm⟩ := h
  refine ⟨H0, O0, T, δ, st, ?_⟩
  unfold bnd at hm
  cases e1 : m δ with
  | bad => simp only [e1] at hm
  | exn x δ1 => simp only [e1] at hm; exact hm
  | ok o δ1 =>
    simp only [e1] at hm
    intro v H1 ov st1
    refine ⟨H0, O0, tmp v o ++ T, δ1, st1, ?_⟩
    cases e2 : ms δ1 with
    | bad => simp only [e2] at hm
    | exn x δ2 => simp only [e2] at hm; exact fun cls d H' a b => hm cls d H' a b.drop
    | ok os δ2 =>
      simp only [e2, ret] at hm
      intro vs H2 ovs st2
      exact hm (v :: vs) H2 (.cons ov ovs) (by simpa [tmps] using st2)
theorem tE_mono {m : M Opd} {σ : St} {H : Hp} {Q Q' : VK} (h : tE K W m σ H Q) (f : ∀ v H', Q v H' → Q' v H') : tE K W m σ H Q' := by
  obtain ⟨H0, O0, T, δ, st, hm⟩ := h
  refine ⟨H0, O0, T, δ, st, ?_⟩
  cases e1 : m δ with
  | bad => simp only [e1] at hm
  | exn x δ1 => simp only [e1] at hm ⊢; exact hm
  | ok o δ1 => simp only [e1] at hm ⊢; exact fun v H' a b => f _ _ (hm v H' a b)
theorem tA_mono {m : M (List Opd)} {σ : St} {H : Hp} {Q Q' : List V → Hp → Prop} (h : tA K W m σ H Q) (f : ∀ v H', Q v H' → Q' v H') : tA K W m σ H Q' := by
  obtain ⟨H0, O0, T, δ, st, hm⟩ := h
  refine ⟨H0, O0, T, δ, st, ?_⟩
  cases e1 : m δ with
  | bad => simp only [e1] at hm
  | exn x δ1 => simp only [e1] at hm ⊢; exact hm
  | ok o δ1 => simp only [e1] at hm ⊢; exact fun v H' a b => f _ _ (hm v H' a b)
theorem one_t {f : List PyData → Option SV} {a : M Opd} {σ : St} {H : Hp} {Q : VK} (h : tE K W (eOp f [a]) σ H Q) : tE K W a σ H fun x H1 => rN K f [x] H1 Q :=
  tE_mono (tA_cons (eOp_t h)) fun _ _ q => tA_nil q
theorem two_t {f : List PyData → Option SV} {a b : M Opd} {σ : St} {H : Hp} {Q : VK} (h : tE K W (eOp f [a, b]) σ H Q) : tE K W a σ H fun x H1 => tE K W b σ H1 fun y H2 => rN K f [x, y] H2 Q :=
  tE_mono (tA_cons (eOp_t h)) fun _ _ q => tE_mono (tA_cons q) fun _ _ q => tA_nil q
theorem three_t {f : List PyData → Option SV} {a b c : M Opd} {σ : St} {H : Hp} {Q : VK} (h : tE K W (eOp f [a, b, c]) σ H Q) : tE K W a σ H fun x H1 => tE K W b σ H1 fun y H2 => tE K W c σ H2 fun z H3 => rN K f [x, y, z] H3 Q :=
  tE_mono (tA_cons (eOp_t h)) fun _ _ q => tE_mono (tA_cons q) fun _ _ q => tE_mono (tA_cons q) fun _ _ q => tA_nil q
theorem se_bin {op : Operator} {a b : Expr} {ma mb : M Opd} (ha : SE X W a ma) (hb : SE X W b mb) : SE X W (.BinOp a op b pos) (eOp (g2 (gBin op)) [ma, mb]) := (pe_op (opn_bin op) ha hb).imp fun _ _ _ h => two_t h
theorem not_set {op : CmpOp} {b : Expr} (h : (match b with | .Set _ _ _ => false | _ => true) = true) : behindInMarks op b = false := by
  cases b <;> first | rfl | cases h
theorem se_cmp (hu : X.A.units + 65 < cLine) {op : CmpOp} {a b : Expr} {ma mb : M Opd} (hs : (match b with | .Set _ _ _ => false | _ => true) = true) (ha : SE X W a ma) (hb : SE X W b mb) : SE X W (.Compare a [op] [b] pos) (eOp (gB2 (gCmp op)) [ma, mb]) :=
  (pe_cmpR (opn_cmp hu op) ha hb (not_set hs)).imp fun _ _ _ h => two_t h
theorem se_idx {a b : Expr} {ma mb : M Opd} (hs : (match b with | .Slice _ _ _ _ => false | _ => true) = true) (ha : SE X W a ma) (hb : SE X W b mb) : SE X W (.Subscript a b pos) (eOp (g2 gIdx) [ma, mb]) :=
  (pe_ix ixn ha hb (by intro o i; cases b <;> first | rfl | cases hs)).imp fun _ _ _ h => two_t h
theorem se_neg {a : Expr} {ma : M Opd} (ha : SE X W a ma) : SE X W (.UnaryOp .USub a pos) (eOp (g1 (gUn .USub)) [ma]) :=
  (pe_un un_neg ha).imp fun _ _ _ h => tE_mono (one_t h) fun x H1 q => by
    obtain ⟨ds, sv, po, e, q⟩ := q
    obtain ⟨d, rfl, a⟩ := one_opn po
    have e : gUn .USub d = some sv := e
    unfold gUn at e
    split at e
    · cases e
      cases a.int
      exact ⟨_, rfl, q _ _ (Res.same (.int _))⟩
    · cases e
/-! ### slices -/
def tO (K : PySem.W.Frag) (W : WX) (m : M (Option Int)) : TO := fun σ H Q => ∃ H0 O0 T δ, Ste K H0 O0 σ H δ T ∧ match m δ with
  | .ok o δ' => ∀ H', Ste K H0 O0 σ H' δ' T → Q o H'
  | .exn x δ' => ∀ cls d H', ExnOk K H' x cls d → Ste K H0 O0 σ H' δ' T → W cls d σ H'
  | .bad => False
theorem po_imp {e : Option Expr} {t t' : TO} (h : PO X e t) (f : ∀ σ H Q, t' σ H Q → t σ H Q) : PO X e t' := ⟨fun pins s σ H Q I q => h.run pins s σ H Q I (f σ H Q q)⟩
theorem so_none : PO X none (tO X.K W (partM none)) := po_imp po_none fun σ H Q h => by
  obtain ⟨H0, O0, T, δ, st, hm⟩ := h
  exact hm H st
theorem so_some {e : Expr} {m : M Opd} (h : SE X W e m) : PO X (some e) (tO X.K W (partM (some m))) := po_imp (po_some h) fun σ H Q h => by
  obtain ⟨H0, O0, T, δ, st, hm⟩ := h
  refine ⟨H0, O0, T, δ, st, ?_⟩
  unfold partM intO bnd at hm
  cases e1 : m δ with
  | bad => simp only [e1] at hm
  | exn x δ1 => simp only [e1] at hm; exact hm
  | ok o δ1 =>
    simp only [e1] at hm
    intro v H1 ov st1
    cases e2 : o.data δ1 with
    | none => simp only [e2] at hm
    | some d =>
      have po := datas_opn (os := [o]) (vs := [v]) (ds := [d]) (T := T) (.cons ov .nil) (by simpa [tmps] using st1) (by unfold datas; rw [e2]; rfl)
      obtain ⟨d', ed, a⟩ := one_opn po
      cases ed
      cases d with
      | int i =>
        simp only [e2, ret] at hm
        exact ⟨i, a.int, hm H1 st1.drop⟩
      | _ => simp only [e2] at hm
theorem se_cut {a : Expr} {lo hi : Option Expr} {ma : M Opd} {ml mh : Option (M Opd)} {p2 : Pos} (ha : SE X W a ma) (hl : PO X lo (tO X.K W (partM ml))) (hh : PO X hi (tO X.K W (partM mh))) :
    SE X W (.Subscript a (.Slice lo hi none p2) pos) (eCut ma ml mh) := (pe_slice sln ha hl hh).imp fun σ H Q h => by
  obtain ⟨H0, O0, T, δ, st, hm⟩ := h
  refine ⟨H0, O0, T, δ, st, ?_⟩
  unfold eCut bnd at hm
  cases e1 : ma δ with
  | bad => simp only [e1] at hm
  | exn x δ1 => simp only [e1] at hm; exact hm
  | ok o δ1 =>
    simp only [e1] at hm
    intro v H1 ov st1
    refine ⟨H0, O0, tmp v o ++ T, δ1, st1, ?_⟩
    cases e2 : partM ml δ1 with
    | bad => simp only [e2] at hm
    | exn x δ2 => simp only [e2] at hm; exact fun cls d H' a b => hm cls d H' a b.drop
    | ok l δ2 =>
      simp only [e2] at hm
      intro H2 st2
      refine ⟨H0, O0, tmp v o ++ T, δ2, st2, ?_⟩
      cases e3 : partM mh δ2 with
      | bad => simp only [e3] at hm
      | exn x δ3 => simp only [e3] at hm; exact fun cls d H' a b => hm cls d H' a b.drop
      | ok h δ3 =>
        simp only [e3] at hm
        intro H3 st3
        unfold opN at hm
        cases e4 : datas δ3 [o] with
        | none => simp only [e4] at hm
        | some ds =>
          simp only [e4] at hm
          have po := datas_opn (os := [o]) (vs := [v]) (ds := ds) (T := T) (.cons ov .nil) (by simpa [tmps] using st3) e4
          obtain ⟨d, rfl, a⟩ := one_opn po
          have fin : ∀ s, gCut l h d = some s → rCutD X.K v l h H3 Q := fun s es => by
            have hm' : ∀ v H', OpdV σ v (.val s) → Ste X.K H0 O0 σ H' δ3 (tmp v (.val s) ++ T) → Q v H' := by
              have es' : g1 (gCut l h) [d] = some s := es
              simp only [es'] at hm
              exact hm
            refine ⟨d, s, a, ?_, fun v' H' r => hm' v' H' True.intro ?_⟩
            · unfold gCut at es
              cases d with
              | list xs => exact (Option.some.inj es).symm
              | tuple xs => exact (Option.some.inj es).symm
              | str z =>
                by_cases hz : z.length ≤ sizeLine
                · simp only [if_pos hz] at es
                  exact ⟨hz, (Option.some.inj es).symm⟩
                · simp only [if_neg hz] at es
                  cases es
              | _ => cases es
            · exact Ste.perm (Ste.drop (T' := tmp v o) (Ste.perm (st3.res r) (by
                have p := (List.perm_append_comm (l₁ := [(v', s)]) (l₂ := tmp v o)).append_right T
                rw [List.append_assoc, List.append_assoc] at p
                exact p))) (List.Perm.refl _)
          cases es : gCut l h d with
          | none =>
            have es' : g1 (gCut l h) [d] = none := es
            simp only [es'] at hm
          | some s => exact fin s es
end
end Ev

/-! D7: displays, tests, and, or, not, if-else, chains; built-in calls by operands. -/
namespace Ev
open PySem L2
variable [Tb]
section
variable {K : PySem.W.Frag} {H0 H H' : Hp} {O0 : List Addr} {σ : St} {δ δ' : DS} {T T' : List (V × SV)} {v : V} {s : SV} {d : PyData} {W : WX}
theorem tmps_app : ∀ {vs ws : List V} {os ps : List Opd}, vs.length = os.length → tmps (vs ++ ws) (os ++ ps) = tmps ws ps ++ tmps vs os
  | [], ws, [], ps, _ => by simp [tmps]
  | v :: vs, ws, o :: os, ps, h => by
    show tmps (vs ++ ws) (os ++ ps) ++ tmp v o = _
    rw [tmps_app (by simpa using h)]
    simp [tmps]
theorem OpdVs.length {vs : List V} {os : List Opd} (h : OpdVs σ vs os) : vs.length = os.length := by
  induction h with
  | nil => rfl
  | cons _ _ ih => simp [ih]
theorem OpdVs.append {vs ws : List V} {os ps : List Opd} (h : OpdVs σ vs os) (h' : OpdVs σ ws ps) : OpdVs σ (vs ++ ws) (os ++ ps) := by
  induction h with
  | nil => exact h'
  | cons a _ ih => exact .cons a ih
def vals (ds : List PyData) : List Opd := ds.map fun d => .val (.dat d)
theorem opdvs_vals : ∀ {vs : List V} {ds : List PyData}, vs.length = ds.length → OpdVs σ vs (vals ds)
  | [], [], _ => .nil
  | v :: vs, d :: ds, h => .cons True.intro (opdvs_vals (by simpa using h))
theorem Ste.pushAll : ∀ {vs : List V} {ds : List PyData} {T : List (V × SV)}, IsAll K H vs ds → Ste K H0 O0 σ H δ T → Ste K H0 O0 σ H δ (tmps vs (vals ds) ++ T)
  | _, [], T, .nil, h => h
  | v :: vs, d :: ds, T, .cons a t, h => by
    have h1 := h.res (Res.same a)
    have h2 := Ste.pushAll t h1
    show Ste K H0 O0 σ H δ (tmps vs (vals ds) ++ [(v, SV.dat d)] ++ T)
    rw [List.append_assoc]
    exact h2
theorem Opn.seq {ds : List PyData} (h : Opn K H v d) (e : d = .list ds ∨ d = .tuple ds) : ∃ a vs, v = .ref a ∧ (SqT K H a vs ∨ SqL K H a vs) ∧ IsAll K H vs ds := by
  rcases e with rfl | rfl
  · obtain ⟨a, vs, rfl, r, t⟩ := h.list
    exact ⟨a, vs, rfl, .inr (.inl r), t⟩
  · obtain ⟨a, vs, rfl, r, t⟩ := h.tuple
    exact ⟨a, vs, rfl, .inl r, t⟩
/-- the data of one operand that stands -/
theorem opd_opn {o : Opd} (ov : OpdV σ v o) (st : Ste K H0 O0 σ H δ (tmp v o ++ T)) (e : o.data δ = some d) : Opn K H v d := by
  have po := datas_opn (os := [o]) (vs := [v]) (ds := [d]) (T := T) (.cons ov .nil) (by simpa [tmps] using st) (by unfold datas; rw [e]; rfl)
  obtain ⟨d', ed, a⟩ := one_opn po
  cases ed
  exact a
theorem Opn.tru {b : Bool} (h : Opn K H v d) (e : truthy d = some b) : TruV K v H b := by
  have emp : ∀ {vs : List V} {ds : List PyData}, IsAll K H vs ds → (!vs.isEmpty) = !ds.isEmpty := fun t => by cases t <;> rfl
  cases d with
  | none => cases h.none; cases e; exact rfl
  | bool c => cases h.bool; cases e; exact rfl
  | int i => cases h.int; cases e; exact rfl
  | str x =>
    cases h.str
    have e : (if x.length ≤ sizeLine then some ((x.length : Int) != 0) else Option.none) = some b := e
    by_cases hz : x.length ≤ sizeLine
    · rw [if_pos hz] at e; cases e; exact ⟨hz, rfl⟩
    · rw [if_neg hz] at e; cases e
  | list ds =>
    obtain ⟨a, vs, rfl, r, t⟩ := h.list
    cases e
    exact .inl ⟨vs, .inl r, (emp t).symm⟩
  | tuple ds =>
    obtain ⟨a, vs, rfl, r, t⟩ := h.tuple
    cases e
    exact .inr (.inl ⟨vs, r, (emp t).symm⟩)
  | dict _ => cases e
theorem truth_t {o : Opd} {b : Bool} (ov : OpdV σ v o) (st : Ste K H0 O0 σ H δ (tmp v o ++ T)) (e : truth o δ = .ok b δ') : δ' = δ ∧ TruV K v H b := by
  unfold truth at e
  cases e1 : o.data δ with
  | none => simp only [e1, Option.bind_none] at e; cases e
  | some d =>
    simp only [e1, Option.bind_some] at e
    cases e2 : truthy d with
    | none => simp only [e2] at e; cases e
    | some c =>
      simp only [e2] at e
      cases e
      exact ⟨rfl, (opd_opn ov st e1).tru e2⟩
theorem truth_noexn {o : Opd} {x : Exn} : truth o δ ≠ .exn x δ' := by
  unfold truth
  cases (o.data δ).bind truthy <;> simp
end

section
variable {X : Cx} {W : WX} {pos p : Pos}
/-! ### rows with stars -/
theorem saS_nil : SA X W [] (evS []) := sa_nil
theorem saS_cons {e : Expr} {es : List Expr} {m : M Opd} {ms : List (Bool × M Opd)} (hp : plainE e = true) (h : SE X W e m) (hs : SA X W es (evS ms)) : SA X W (e :: es) (evS ((false, m) :: ms)) := sa_cons hp h hs
theorem saS_star {e : Expr} {es : List Expr} {m : M Opd} {ms : List (Bool × M Opd)} (h : SE X W e m) (hs : SA X W es (evS ms)) : SA X W (.Starred e p :: es) (evS ((true, m) :: ms)) :=
  (StX.pa_star h hs).imp fun σ H Q h => by
    obtain ⟨H0, O0, T, δ, st, hm⟩ := h
    refine ⟨H0, O0, T, δ, st, ?_⟩
    unfold evS bnd at hm
    cases e1 : m δ with
    | bad => simp only [e1] at hm
    | exn x δ1 => simp only [e1] at hm; exact hm
    | ok o δ1 =>
      simp only [e1] at hm
      intro v H1 ov st1
      have key : ∀ ds, (o.data δ1 = some (.list ds) ∨ o.data δ1 = some (.tuple ds)) → (match evS ms δ1 with
          | .ok os δ2 => ∀ vs H', OpdVs σ vs (vals ds ++ os) → Ste X.K H0 O0 σ H' δ2 (tmps vs (vals ds ++ os) ++ T) → Q vs H'
          | .exn x δ2 => ∀ cls d H', ExnOk X.K H' x cls d → Ste X.K H0 O0 σ H' δ2 T → W cls d σ H'
          | .bad => False) → ∃ p xs, v = V.ref p ∧ (SqT X.K H1 p xs ∨ SqL X.K H1 p xs) ∧ tA X.K W (evS ms) σ H1 fun ys H2 => Q (xs ++ ys) H2 := fun ds hd hq => by
        obtain ⟨a, xs, rfl, hs, t⟩ : ∃ a vs, v = V.ref a ∧ (SqT X.K H1 a vs ∨ SqL X.K H1 a vs) ∧ IsAll X.K H1 vs ds := by
          rcases hd with hd | hd
          · exact (opd_opn ov st1 hd).seq (.inl rfl)
          · exact (opd_opn ov st1 hd).seq (.inr rfl)
        refine ⟨a, xs, rfl, hs, H0, O0, tmps xs (vals ds) ++ T, δ1, (st1.drop).pushAll t, ?_⟩
        cases e2 : evS ms δ1 with
        | bad => simp only [e2] at hq
        | exn x δ2 => simp only [e2] at hq; exact fun cls d H' a b => hq cls d H' a b.drop
        | ok os δ2 =>
          simp only [e2] at hq
          intro ys H2 ov2 st2
          refine hq (xs ++ ys) H2 ((opdvs_vals t.length).append ov2) ?_
          rw [tmps_app (by unfold vals; rw [List.length_map]; exact t.length), List.append_assoc]
          exact st2
      unfold spread at hm
      cases e2 : o.data δ1 with
      | none => simp only [e2] at hm
      | some d =>
        cases d with
        | list ds =>
          simp only [e2] at hm
          refine key ds (.inl e2) ?_
          cases e3 : evS ms δ1 <;> simp only [e3, ret] at hm ⊢ <;> exact hm
        | tuple ds =>
          simp only [e2] at hm
          refine key ds (.inr e2) ?_
          cases e3 : evS ms δ1 <;> simp only [e3, ret] at hm ⊢ <;> exact hm
        | _ => simp only [e2] at hm
theorem takes_noexn : ∀ {os : List Opd} {δ δ' : DS} {x : Exn}, takes os δ ≠ .exn x δ'
  | [], _, _, _ => by simp [takes, ret]
  | o :: os, δ, δ', x => by
    intro e
    unfold takes bnd at e
    have t1 : ∀ {δ δ' x}, takeD o δ ≠ .exn x δ' := by
      intro δ δ' x e
      unfold takeD bnd at e
      cases o with
      | val s =>
        show False
        simp only [take, ret] at e
        cases h : s.data <;> simp only [h, ret, stuck] at e <;> cases e
      | slot i =>
        simp only [take] at e
        cases h : (at? δ i).bind SV.data <;> simp only [h] at e
        · cases e
        · simp only [SV.data, ret] at e; cases e
    cases e1 : takeD o δ with
    | bad => simp only [e1] at e; cases e
    | exn x1 δ1 => exact t1 e1
    | ok d δ1 =>
      simp only [e1] at e
      cases e2 : takes os δ1 with
      | bad => simp only [e2] at e; cases e
      | exn x2 δ2 => exact takes_noexn e2
      | ok ds δ2 => simp only [e2, ret] at e; cases e
/-- a display: its items are laid down as data first -/
theorem disp_t {ms : List (Bool × M Opd)} {k : List PyData → SV} {K : PySem.W.Frag} {σ : St} {H : Hp} {Q : VK} (h : tE K W (bnd (evS ms) fun os => bnd (takes os) fun ds => if ds.length ≤ sizeLine then ret (.val (k ds)) else stuck) σ H Q)
    {o : List V → HO} (hk : ∀ {H p vs ds}, H p = none → IsAll K H vs ds → Res K H (.ref p) (k ds) (upd H p (o vs))) :
    tA K W (evS ms) σ H fun vs H1 => Gh (fun H2 => vs.length ≤ sizeLine ∧ ∀ p, H2 p = none → Q (.ref p) (upd H2 p (o vs))) H1 := by
  obtain ⟨H0, O0, T, δ, st, hm⟩ := h
  refine ⟨H0, O0, T, δ, st, ?_⟩
  unfold bnd at hm
  cases e1 : evS ms δ with
  | bad => simp only [e1] at hm
  | exn x δ1 => simp only [e1] at hm; exact hm
  | ok os δ1 =>
    simp only [e1] at hm
    intro vs H1 ov st1
    cases e2 : takes os δ1 with
    | bad => simp only [e2] at hm
    | exn x δ2 => exact absurd e2 takes_noexn
    | ok ds δ2 =>
      simp only [e2] at hm
      refine takes_gh ov st1 e2 fun H2 _ st2 i2 => ?_
      by_cases hz : ds.length ≤ sizeLine
      · simp only [if_pos hz, ret] at hm
        exact ⟨by rw [i2.length]; exact hz, fun p hp => hm _ _ True.intro (st2.res (hk hp i2))⟩
      · simp only [if_neg hz, stuck] at hm
theorem se_tup {es : List Expr} {k : Nat} {ms : List (Bool × M Opd)} (h : SA X W es (evS ms)) : SE X W (.Tuple es k pos) (eTup ms) :=
  (pe_tup h.gh).imp fun _ _ _ h => disp_t (k := fun ds => .dat (.tuple ds)) (o := .tup) h fun hp i => Res.tup hp i
theorem se_lst {es : List Expr} {ms : List (Bool × M Opd)} (h : SA X W es (evS ms)) : SE X W (.List es pos) (eLst ms) :=
  (pe_lst h.gh).imp fun _ _ _ h => disp_t (k := fun ds => .lst ds) (o := .lst) h fun hp i => Res.lst hp i

/-! ### tests -/
def plainT : Expr → Bool
  | .UnaryOp .Not _ _ => false
  | .BoolOp _ _ _ => false
  | .IfExp _ _ _ _ => false
  | .Compare _ _ _ _ => false
  | _ => true
theorem isTrue_of {e : Expr} (h : plainT e = true) {env : Env} : ∀ whole, isTrue e env whole = (do let v ← whole; standAt e.pos; holding [v] (PySem.truthy v)) := by
  intro whole
  cases e with
  | UnaryOp op a p => cases op <;> first | rfl | cases h
  | BoolOp _ _ _ => cases h
  | IfExp _ _ _ _ => cases h
  | Compare _ _ _ _ => cases h
  | _ => rfl
theorem tOf_t {K : PySem.W.Frag} {m : M Opd} {σ : St} {H : Hp} {Q : Bool → Hp → Prop} (h : tT K W (tOf m) σ H Q) : tE K W m σ H fun x H' => ∃ k, TruV K x H' k ∧ Q k H' := by
  obtain ⟨H0, O0, T, δ, st, hm⟩ := h
  refine ⟨H0, O0, T, δ, st, ?_⟩
  unfold tOf bnd at hm
  cases e1 : m δ with
  | bad => simp only [e1] at hm
  | exn x δ1 => simp only [e1] at hm; exact hm
  | ok o δ1 =>
    simp only [e1] at hm
    intro v H1 ov st1
    cases e2 : truth o δ1 with
    | bad => simp only [e2] at hm
    | exn x δ2 => exact absurd e2 truth_noexn
    | ok b δ2 =>
      simp only [e2] at hm
      obtain ⟨rfl, t⟩ := truth_t ov st1 e2
      exact ⟨b, t, hm H1 st1.drop⟩
theorem st_of {e : Expr} {m : M Opd} (hp : plainT e = true) (h : SE X W e m) : ST X W e (tOf m) := (pt_truth h (isTrue_of hp)).imp fun _ _ _ h => tOf_t h
/-- gives truth values only -/
def BoolM (m : M Opd) : Prop := ∀ δ o δ', m δ = .ok o δ' → ∃ b, o = .val (.dat (.bool b))
theorem boolM_opN {f : PyData → PyData → Option Bool} {os : List Opd} : BoolM (opN (gB2 f) os) := by
  intro δ o δ' h
  unfold opN at h
  cases e1 : datas δ os with
  | none => simp only [e1] at h; cases h
  | some ds =>
    simp only [e1] at h
    cases e2 : gB2 f ds with
    | none => simp only [e2] at h; cases h
    | some s =>
      simp only [e2] at h
      cases h
      unfold gB2 at e2
      split at e2
      · obtain ⟨b, _, e⟩ := Option.map_eq_some_iff.mp e2
        exact ⟨b, by rw [← e]⟩
      · cases e2
theorem boolM_bnd {α : Type} {m : M α} {f : α → M Opd} (h : ∀ a, BoolM (f a)) : BoolM (bnd m f) := by
  intro δ o δ' e
  unfold bnd at e
  cases e1 : m δ with
  | bad => simp only [e1] at e; cases e
  | exn x δ1 => simp only [e1] at e; cases e
  | ok a δ1 => simp only [e1] at e; exact h a δ1 o δ' e
theorem boolT {K : PySem.W.Frag} {m : M Opd} (hb : BoolM m) {σ : St} {H : Hp} {Q : Bool → Hp → Prop} (h : tT K W (tOf m) σ H Q) : tE K W m σ H fun x H' => ∃ k, x = .bl k ∧ Q k H' := by
  obtain ⟨H0, O0, T, δ, st, hm⟩ := h
  refine ⟨H0, O0, T, δ, st, ?_⟩
  unfold tOf bnd at hm
  cases e1 : m δ with
  | bad => simp only [e1] at hm
  | exn x δ1 => simp only [e1] at hm; exact hm
  | ok o δ1 =>
    simp only [e1] at hm
    intro v H1 ov st1
    obtain ⟨b, rfl⟩ := hb δ o δ1 e1
    have e3 : (Opd.val (.dat (.bool b))).data δ1 = some (.bool b) := rfl
    exact ⟨b, (opd_opn ov st1 e3).bool, hm H1 st1.drop⟩
theorem st_cmp (hu : X.A.units + 65 < cLine) {op : CmpOp} {a b : Expr} {ma mb : M Opd} (hs : (match b with | .Set _ _ _ => false | _ => true) = true) (ha : SE X W a ma) (hb : SE X W b mb) : ST X W (.Compare a [op] [b] pos) (tOf (eOp (gB2 (gCmp op)) [ma, mb])) :=
  (pt_cmpR (opn_cmp hu op) ha hb (not_set hs)).imp fun _ _ _ h => two_t (boolT (boolM_bnd fun _ => boolM_opN) h)
theorem st_not {a : Expr} {m : M Bool} (ha : ST X W a m) : ST X W (.UnaryOp .Not a pos) (tNot m) := (pt_not ha).imp fun σ H Q h => by
  obtain ⟨H0, O0, T, δ, st, hm⟩ := h
  refine ⟨H0, O0, T, δ, st, ?_⟩
  unfold tNot bnd at hm
  cases e1 : m δ with
  | bad => simp only [e1] at hm
  | exn x δ1 => simp only [e1] at hm; exact hm
  | ok b δ1 => simp only [e1, ret] at hm; exact hm
abbrev SW (X : Cx) (W : WX) (e : Expr) (m : M Bool) : Prop := PW X e (tT X.K W m)
theorem sw_and1 {a : Expr} {m : M Bool} (ha : ST X W a m) : SW X W (.BoolOp .And [a] pos) m := pw_and1 ha
theorem sw_or1 {a : Expr} {m : M Bool} (ha : ST X W a m) : SW X W (.BoolOp .Or [a] pos) m := pw_or1 ha
theorem tAnd_t {K : PySem.W.Frag} {a b : M Bool} {σ : St} {H : Hp} {Q : Bool → Hp → Prop} (h : tT K W (tAnd a b) σ H Q) : tT K W a σ H fun c H1 => if c = true then tT K W b σ H1 Q else Q false H1 := by
  obtain ⟨H0, O0, T, δ, st, hm⟩ := h
  refine ⟨H0, O0, T, δ, st, ?_⟩
  unfold tAnd bnd at hm
  cases e1 : a δ with
  | bad => simp only [e1] at hm
  | exn x δ1 => simp only [e1] at hm; exact hm
  | ok c δ1 =>
    simp only [e1] at hm
    intro H1 st1
    cases c with
    | true => exact ⟨H0, O0, T, δ1, st1, hm⟩
    | false => exact hm H1 st1
theorem tOr_t {K : PySem.W.Frag} {a b : M Bool} {σ : St} {H : Hp} {Q : Bool → Hp → Prop} (h : tT K W (tOr a b) σ H Q) : tT K W a σ H fun c H1 => if c = true then Q true H1 else tT K W b σ H1 Q := by
  obtain ⟨H0, O0, T, δ, st, hm⟩ := h
  refine ⟨H0, O0, T, δ, st, ?_⟩
  unfold tOr bnd at hm
  cases e1 : a δ with
  | bad => simp only [e1] at hm
  | exn x δ1 => simp only [e1] at hm; exact hm
  | ok c δ1 =>
    simp only [e1] at hm
    intro H1 st1
    cases c with
    | true => exact hm H1 st1
    | false => exact ⟨H0, O0, T, δ1, st1, hm⟩
theorem sw_and {a b : Expr} {r : List Expr} {ma mb : M Bool} (ha : ST X W a ma) (hb : SW X W (.BoolOp .And (b :: r) pos) mb) : SW X W (.BoolOp .And (a :: b :: r) pos) (tAnd ma mb) := (pw_and ha hb).imp fun _ _ _ h => tAnd_t h
theorem sw_or {a b : Expr} {r : List Expr} {ma mb : M Bool} (ha : ST X W a ma) (hb : SW X W (.BoolOp .Or (b :: r) pos) mb) : SW X W (.BoolOp .Or (a :: b :: r) pos) (tOr ma mb) := (pw_or ha hb).imp fun _ _ _ h => tOr_t h

/-! ### truth as a value, if-else -/
theorem eNotV_t {K : PySem.W.Frag} {m : M Opd} {σ : St} {H : Hp} {Q : VK} (h : tE K W (eNot (tOf m)) σ H Q) : tE K W m σ H fun x H1 => ∃ k, TruV K x H1 k ∧ Q (.bl (!k)) H1 := by
  refine tOf_t (Q := fun k H1 => Q (.bl (!k)) H1) ?_
  obtain ⟨H0, O0, T, δ, st, hm⟩ := h
  refine ⟨H0, O0, T, δ, st, ?_⟩
  unfold eNot at hm
  have hm' : match bnd (tOf m) (fun c => ret (Opd.val (.dat (.bool (!c))))) δ with
    | .ok o δ' => ∀ v H', OpdV σ v o → Ste K H0 O0 σ H' δ' (tmp v o ++ T) → Q v H'
    | .exn x δ' => ∀ cls d H', ExnOk K H' x cls d → Ste K H0 O0 σ H' δ' T → W cls d σ H'
    | .bad => False := hm
  unfold bnd at hm'
  cases e1 : tOf m δ with
  | bad => simp only [e1] at hm'
  | exn x δ1 => simp only [e1] at hm'; exact hm'
  | ok c δ1 =>
    simp only [e1, ret] at hm'
    exact fun H' st' => hm' _ _ True.intro (st'.res (Res.same (.bl _)))
theorem se_not {a : Expr} {m : M Opd} (ha : SE X W a m) : SE X W (.UnaryOp .Not a pos) (eNot (tOf m)) := (pe_notT ha).imp fun _ _ _ h => eNotV_t h
theorem se_one {op : BoolOp} {a : Expr} {m : M Opd} (ha : SE X W a m) : SE X W (.BoolOp op [a] pos) m := pe_one ha
theorem se_and {a b : Expr} {r : List Expr} {ma mb : M Opd} (ha : SE X W a ma) (hb : SE X W (.BoolOp .And (b :: r) pos) mb) : SE X W (.BoolOp .And (a :: b :: r) pos) (eAnd ma mb) := (pe_andT ha hb).imp fun σ H Q h => by
  obtain ⟨H0, O0, T, δ, st, hm⟩ := h
  refine ⟨H0, O0, T, δ, st, ?_⟩
  unfold eAnd bnd at hm
  cases e1 : ma δ with
  | bad => simp only [e1] at hm
  | exn x δ1 => simp only [e1] at hm; exact hm
  | ok o δ1 =>
    simp only [e1] at hm
    intro v H1 ov st1
    cases e2 : truth o δ1 with
    | bad => simp only [e2] at hm
    | exn x δ2 => exact absurd e2 truth_noexn
    | ok c δ2 =>
      simp only [e2] at hm
      obtain ⟨rfl, t⟩ := truth_t ov st1 e2
      refine ⟨c, t, ?_⟩
      cases c with
      | true =>
        refine ⟨H0, O0, T, δ2, st1.drop, ?_⟩
        exact hm
      | false => exact hm v H1 ov st1
theorem se_or {a b : Expr} {r : List Expr} {ma mb : M Opd} (ha : SE X W a ma) (hb : SE X W (.BoolOp .Or (b :: r) pos) mb) : SE X W (.BoolOp .Or (a :: b :: r) pos) (eOr ma mb) := (pe_orT ha hb).imp fun σ H Q h => by
  obtain ⟨H0, O0, T, δ, st, hm⟩ := h
  refine ⟨H0, O0, T, δ, st, ?_⟩
  unfold eOr bnd at hm
  cases e1 : ma δ with
  | bad => simp only [e1] at hm
  | exn x δ1 => simp only [e1] at hm; exact hm
  | ok o δ1 =>
    simp only [e1] at hm
    intro v H1 ov st1
    cases e2 : truth o δ1 with
    | bad => simp only [e2] at hm
    | exn x δ2 => exact absurd e2 truth_noexn
    | ok c δ2 =>
      simp only [e2] at hm
      obtain ⟨rfl, t⟩ := truth_t ov st1 e2
      refine ⟨c, t, ?_⟩
      cases c with
      | true => exact hm v H1 ov st1
      | false =>
        refine ⟨H0, O0, T, δ2, st1.drop, ?_⟩
        exact hm
theorem se_if {c a b : Expr} {mc : M Bool} {ma mb : M Opd} (hc : ST X W c mc) (ha : SE X W a ma) (hb : SE X W b mb) : SE X W (.IfExp c a b pos) (mIf mc ma mb) := (pe_ifExp hc ha hb).imp fun σ H Q h => by
  obtain ⟨H0, O0, T, δ, st, hm⟩ := h
  refine ⟨H0, O0, T, δ, st, ?_⟩
  unfold mIf bnd at hm
  cases e1 : mc δ with
  | bad => simp only [e1] at hm
  | exn x δ1 => simp only [e1] at hm; exact hm
  | ok k δ1 =>
    simp only [e1] at hm
    intro H1 st1
    cases k with
    | true => exact ⟨H0, O0, T, δ1, st1, hm⟩
    | false => exact ⟨H0, O0, T, δ1, st1, hm⟩
end
end Ev

/-! D8: statements. -/
namespace L2
open PySem
theorem PS.imp {X : Cx} {e : Stmt} {t t' : TS} (h : PS X e t) (f : ∀ D σ H, t' D σ H → t D σ H) : PS X e t' := ⟨fun pins s σ H D I q => h.run pins s σ H D I (f D σ H q)⟩
theorem PSs.imp {X : Cx} {e : List Stmt} {t t' : TS} (h : PSs X e t) (f : ∀ D σ H, t' D σ H → t D σ H) : PSs X e t' := ⟨fun pins s σ H D I q => h.run pins s σ H D I (f D σ H q)⟩
theorem PG.imp {X : Cx} {e : Expr} {t t' : TG} (h : PG X e t) (f : ∀ v σ H Q, t' v σ H Q → t v σ H Q) : PG X e t' := ⟨fun pins s σ H v u Q I r q => h.run pins s σ H v u Q I r (f v σ H Q q)⟩
theorem PGs.imp {X : Cx} {e : List Expr} {t t' : TGs} (h : PGs X e t) (f : ∀ v σ H Q, t' v σ H Q → t v σ H Q) : PGs X e t' := ⟨fun pins s σ H v u Q I r q => h.run pins s σ H v u Q I r (f v σ H Q q)⟩
theorem PI.imp {X : Cx} {tg e : Expr} {t t' : TI} (h : PI X tg e t) (f : ∀ σ H R, t' σ H R → t σ H R) : PI X tg e t' := ⟨fun pins s σ H R I q => h.run pins s σ H R I (f σ H R q)⟩
end L2
namespace Ev
open PySem L2
variable [Tb]

/-- two rows of names that part at the slots `is` alone -/
def Apart (is : List Nat) (σ σ' : St) : Prop := σ'.length = σ.length ∧ ∀ j, j ∉ is → σ'[j]? = σ[j]?
theorem Apart.refl (is : List Nat) (σ : St) : Apart is σ σ := ⟨rfl, fun _ _ => rfl⟩
theorem Apart.trans {is : List Nat} {σ σ1 σ2 : St} (a : Apart is σ σ1) (b : Apart is σ1 σ2) : Apart is σ σ2 := ⟨b.1.trans a.1, fun j h => (b.2 j h).trans (a.2 j h)⟩
theorem Apart.mono {is js : List Nat} {σ σ1 : St} (a : Apart is σ σ1) (h : ∀ i ∈ is, i ∈ js) : Apart js σ σ1 := ⟨a.1, fun j n => a.2 j fun m => n (h j m)⟩
/-- what is wanted behind a statement's run; as: the slots that may be written -/
def Post (K : PySem.W.Frag) (W : WX) (as : List Nat) (σ0 : St) (H0 : Hp) (O0 : List Addr) (T : List (V × SV)) (D : Ends) : R Flw → Prop
  | .ok .nx δ => ∀ σ H, Apart as σ0 σ → Ste K H0 O0 σ H δ T → D.nx σ H
  | .ok .bk δ => ∀ σ H, Apart as σ0 σ → Ste K H0 O0 σ H δ T → D.bk σ H
  | .ok .ct δ => ∀ σ H, Apart as σ0 σ → Ste K H0 O0 σ H δ T → D.ct σ H
  | .ok (.rt s) δ => ∀ v σ H, Apart as σ0 σ → Ste K H0 O0 σ H δ ((v, s) :: T) → D.rt v H
  | .exn x δ => ∀ cls d σ H, Apart as σ0 σ → ExnOk K H x cls d → Ste K H0 O0 σ H δ T → W cls d σ H
  | .bad => False
def tS (K : PySem.W.Frag) (W : WX) (as : List Nat) (m : M Flw) : TS := fun D σ H => ∃ σ0 H0 O0 T δ, Apart as σ0 σ ∧ Ste K H0 O0 σ H δ T ∧ Post K W as σ0 H0 O0 T D (m δ)
abbrev SS (X : Cx) (W : WX) (as : List Nat) (st : Stmt) (m : M Flw) : Prop := PS X st (tS X.K W as m)
abbrev SSs (X : Cx) (W : WX) (as : List Nat) (st : List Stmt) (m : M Flw) : Prop := PSs X st (tS X.K W as m)

section
variable {K : PySem.W.Frag} {H0 H H' : Hp} {O0 : List Addr} {σ : St} {δ δ' : DS} {T T' : List (V × SV)} {v : V} {s : SV} {d : PyData} {W : WX}
theorem Ste.put {i : Nat} (h : Ste K H0 O0 σ H δ ((v, s) :: T)) (hi : i < δ.length) : Ste K H0 O0 (σ.set i (some v)) H (δ.set i (some s)) T := by
  obtain ⟨L, a, R⟩ := h
  obtain ⟨L1, L2, L3, rfl, b⟩ := a.put v s (by rw [a.length]; exact hi)
  refine ⟨_, b, ?_⟩
  have p : (L1 ++ L2 ++ L3 ++ (v, s) :: T).Perm (L2 ++ (L1 ++ (v, s) :: L3 ++ T)) := by
    have p1 : (L1 ++ L2 ++ L3 ++ (v, s) :: T).Perm ((v, s) :: (L1 ++ L2 ++ L3 ++ T)) := List.perm_middle
    have p2 : (L2 ++ (L1 ++ (v, s) :: L3 ++ T)).Perm ((v, s) :: (L1 ++ L2 ++ L3 ++ T)) := by
      have q1 : (L1 ++ (v, s) :: L3 ++ T).Perm ((v, s) :: (L1 ++ L3 ++ T)) := by
        rw [List.append_assoc, List.append_assoc]; exact List.perm_middle
      have q2 : (L2 ++ (v, s) :: (L1 ++ L3 ++ T)).Perm ((v, s) :: (L2 ++ (L1 ++ L3 ++ T))) := List.perm_middle
      have q3 : (L2 ++ (L1 ++ L3 ++ T)).Perm (L1 ++ L2 ++ L3 ++ T) := by
        rw [← List.append_assoc, ← List.append_assoc]
        exact (List.perm_append_comm.append_right _).append_right _
      exact ((q1.append_left L2).trans q2).trans (q3.cons _)
    exact p1.trans p2.symm
  exact (R.perm p).drop
theorem Sl.agree {σ σ' : St} {δ : DS} {L : List (V × SV)} (h : Sl σ δ L) (hl : σ'.length = σ.length) (e : ∀ i s, at? δ i = some s → σ'[i]? = σ[i]?) : Sl σ' δ L := by
  induction h generalizing σ' with
  | nil =>
    cases σ' with
    | nil => exact .nil
    | cons _ _ => simp at hl
  | hole h ih =>
    cases σ' with
    | nil => simp at hl
    | cons y σ' => exact .hole (ih (by simpa using hl) fun i s hs => by simpa using e (i + 1) s (by simpa [at?] using hs))
  | @full v s σ δ L h ih =>
    cases σ' with
    | nil => simp at hl
    | cons y σ' =>
      have q := e 0 s (by simp [at?])
      have q' : y = some v := by simpa using q
      subst q'
      exact .full (ih (by simpa using hl) fun i s hs => by simpa using e (i + 1) s (by simpa [at?] using hs))
end

section
variable {X : Cx} {W : WX} {as : List Nat} {pos p : Pos}
theorem ss_nil : SSs X W as [] (ret .nx) := pss_nil.imp fun D σ H h => by
  obtain ⟨σ0, H0, O0, T, δ, ap, st, hm⟩ := h
  exact hm σ H ap st
theorem ss_cons {st : Stmt} {r : List Stmt} {a b : M Flw} (ha : SS X W as st a) (hb : SSs X W as r b) : SSs X W as (st :: r) (sSeq a b) := (pss_cons ha hb).imp fun D σ H h => by
  obtain ⟨σ0, H0, O0, T, δ, ap, st, hm⟩ := h
  refine ⟨σ0, H0, O0, T, δ, ap, st, ?_⟩
  unfold sSeq bnd at hm
  cases e1 : a δ with
  | bad => simp only [e1] at hm; exact hm
  | exn x δ1 => simp only [e1] at hm; exact hm
  | ok f δ1 =>
    simp only [e1] at hm
    cases f with
    | nx => exact fun σ' H' ap' st' => ⟨σ0, H0, O0, T, δ1, ap', st', hm⟩
    | bk => exact hm
    | ct => exact hm
    | rt s => exact hm
theorem ss_one {st : Stmt} {a : M Flw} (ha : SS X W as st a) : SSs X W as [st] a := pss_one ha
theorem ss_pass : SS X W as (.Pass pos) (ret .nx) := ps_pass.imp fun D σ H h => by
  obtain ⟨σ0, H0, O0, T, δ, ap, st, hm⟩ := h
  exact hm σ H ap st
theorem ss_break : SS X W as (.Break pos) (ret .bk) := ps_break.imp fun D σ H h => by
  obtain ⟨σ0, H0, O0, T, δ, ap, st, hm⟩ := h
  exact hm σ H ap st
theorem ss_continue : SS X W as (.Continue pos) (ret .ct) := ps_continue.imp fun D σ H h => by
  obtain ⟨σ0, H0, O0, T, δ, ap, st, hm⟩ := h
  exact hm σ H ap st
def noComp : Expr → Bool
  | .ListComp _ _ _ _ | .SetComp _ _ _ _ | .DictComp _ _ _ _ _ => false
  | _ => true
theorem swaps_no {e : Expr} (h : noComp e = true) (t : Option Expr) (l : Nat) (env : Env) : swapsWith e t l env = pure false := by
  cases e <;> first | rfl | cases h
theorem ss_do {e : Expr} {m : M Opd} (hn : noComp e = true) (he : SE X W e m) : SS X W as (.Expr e pos) (sDo m) := (ps_expr he (swaps_no hn _ _ _)).imp fun D σ H h => by
  obtain ⟨σ0, H0, O0, T, δ, ap, st, hm⟩ := h
  refine ⟨H0, O0, T, δ, st, ?_⟩
  unfold sDo bnd at hm
  cases e1 : m δ with
  | bad => simp only [e1] at hm; exact hm
  | exn x δ1 => simp only [e1] at hm; exact fun cls d H' a b => hm cls d σ H' ap a b
  | ok o δ1 =>
    simp only [e1, ret] at hm
    exact fun v H' ov st' => hm σ H' ap st'.drop
/-- an if -/
theorem ss_if {c : Expr} {a b : List Stmt} {mc : M Bool} {ma mb : M Flw} (hc : ST X W c mc) (ha : SSs X W as a ma) (hb : SSs X W as b mb) : SS X W as (.If c a b pos) (mIf mc ma mb) := (ps_if hc ha hb).imp fun D σ H h => by
  obtain ⟨σ0, H0, O0, T, δ, ap, st, hm⟩ := h
  refine ⟨H0, O0, T, δ, st, ?_⟩
  unfold mIf bnd at hm
  cases e1 : mc δ with
  | bad => simp only [e1] at hm; exact hm
  | exn x δ1 => simp only [e1] at hm; exact fun cls d H' a b => hm cls d σ H' ap a b
  | ok k δ1 =>
    simp only [e1] at hm
    intro H1 st1
    cases k with
    | true => exact ⟨σ0, H0, O0, T, δ1, ap, st1, hm⟩
    | false => exact ⟨σ0, H0, O0, T, δ1, ap, st1, hm⟩
/-- a while -/
theorem ss_while {c : Expr} {body : List Stmt} {mc : M Bool} {mb : M Flw} (hp : PassesOwn (model X.prog X.w) X.A X.env X.xe) (hc : ST X W c mc) (hb : SSs X W as body mb) : SS X W as (.While c body [] pos) (mWhile mc mb) :=
  (ps_while hp hc hb).imp fun D σ H h => by
    obtain ⟨σ0, H0, O0, T, δ, ap, st, hm⟩ := h
    have nb : mWhile mc mb δ ≠ .bad := fun e => by rw [e] at hm; exact hm
    obtain ⟨n, e⟩ := mWhile_ex nb
    rw [e] at hm
    refine ⟨fun n σ H => ∃ δ, Apart as σ0 σ ∧ Ste X.K H0 O0 σ H δ T ∧ Post X.K W as σ0 H0 O0 T D (loopN mc mb n δ), ⟨n, δ, ap, st, hm⟩, ?_⟩
    rintro n σ H ⟨δ, ap, st, hm⟩
    refine ⟨H0, O0, T, δ, st, ?_⟩
    cases n with
    | zero => exact False.elim hm
    | succ n =>
      unfold loopN bnd at hm
      cases e1 : mc δ with
      | bad => simp only [e1] at hm; exact hm
      | exn x δ1 => simp only [e1] at hm; exact fun cls d H' a b => hm cls d σ H' ap a b
      | ok k δ1 =>
        simp only [e1] at hm
        intro H1 st1
        cases k with
        | false =>
          simp only [Bool.false_eq_true, if_false, ret] at hm ⊢
          exact hm σ H1 ap st1
        | true =>
          simp only [if_true] at hm ⊢
          refine ⟨fun σ' H' => ∃ δ, Apart as σ0 σ' ∧ Ste X.K H0 O0 σ' H' δ T ∧ Post X.K W as σ0 H0 O0 T D (loopN mc mb n δ), fun σ' H' q => ⟨n, Nat.lt_succ_self _, q⟩, σ0, H0, O0, T, δ1, ap, st1, ?_⟩
          cases e2 : mb δ1 with
          | bad => simp only [e2] at hm; exact hm
          | exn x δ2 => simp only [e2] at hm; exact hm
          | ok f δ2 =>
            simp only [e2] at hm
            cases f with
            | nx => exact fun σ' H' ap' st' => ⟨δ2, ap', st', hm⟩
            | ct => exact fun σ' H' ap' st' => ⟨δ2, ap', st', hm⟩
            | bk => exact hm
            | rt s => exact hm
/-! ### returns -/
theorem leave_gh {K : PySem.W.Frag} {H0 H : Hp} {O0 : List Addr} {σ : St} {δ δ' : DS} {T : List (V × SV)} {v : V} {o : Opd} {np : Nat} (ov : OpdV σ v o) (h : Ste K H0 O0 σ H δ (tmp v o ++ T)) {s' : SV} (e : leave np o δ = .ok s' δ') {Q : Hp → Prop}
    (q : ∀ H', Stays H H' → Ste K H0 O0 σ H' δ' ((v, s') :: T) → Q H') : Gh Q H := by
  cases o with
  | val s => exact take_gh ov h (by exact e) q
  | slot i =>
    unfold leave at e
    by_cases hi : i < np
    · simp only [if_pos hi] at e
      exact take_gh ov h e q
    · simp only [if_neg hi] at e
      cases e1 : at? δ i with
      | none => simp only [e1] at e; cases e
      | some s0 =>
        simp only [e1] at e
        cases e
        obtain ⟨L, a, R⟩ := h
        obtain ⟨v', L1, L2, rfl, ev, f, g⟩ := a.get e1
        have q' : v' = v := by
          have ov' : σ[i]? = some (some v) := ov
          rw [ov'] at ev; cases ev; rfl
        subst q'
        refine .done (q H (Stays.refl _) ⟨L1 ++ L2, g, R.perm ?_⟩)
        have p : (L1 ++ (v', s') :: L2 ++ T).Perm ((v', s') :: (L1 ++ L2 ++ T)) := by
          rw [List.append_assoc, List.append_assoc]
          exact List.perm_middle
        have p2 : (L1 ++ L2 ++ (v', s') :: T).Perm ((v', s') :: (L1 ++ L2 ++ T)) := List.perm_middle
        exact p.trans p2.symm
theorem take_noexn {o : Opd} {δ δ' : DS} {x : Exn} : take o δ ≠ .exn x δ' := by
  cases o with
  | val s => simp [take, ret]
  | slot i =>
    simp only [take]
    cases h : (at? δ i).bind SV.data <;> simp
theorem leave_noexn {np : Nat} {o : Opd} {δ δ' : DS} {x : Exn} : leave np o δ ≠ .exn x δ' := by
  cases o with
  | val s => simp [leave, ret]
  | slot i =>
    unfold leave
    by_cases hi : i < np
    · simp only [if_pos hi]; exact take_noexn
    · simp only [if_neg hi]
      cases at? δ i <;> simp
theorem ss_ret {e : Expr} {m : M Opd} {np : Nat} (he : SE X W e m) : SS X W as (.Return (some e) pos) (sRet np m) := (ps_ret he.gh).imp fun D σ H h => by
  obtain ⟨σ0, H0, O0, T, δ, ap, st, hm⟩ := h
  refine ⟨H0, O0, T, δ, st, ?_⟩
  unfold sRet bnd at hm
  cases e1 : m δ with
  | bad => simp only [e1] at hm; exact hm
  | exn x δ1 => simp only [e1] at hm; exact fun cls d H' a b => hm cls d σ H' ap a b
  | ok o δ1 =>
    simp only [e1] at hm
    intro v H1 ov st1
    cases e2 : leave np o δ1 with
    | bad => simp only [e2] at hm; exact False.elim hm
    | exn x δ2 => exact absurd e2 leave_noexn
    | ok s δ2 =>
      simp only [e2, ret] at hm
      exact leave_gh ov st1 e2 fun H2 _ st2 => hm v σ H2 ap st2
theorem ss_retN : SS X W as (.Return none pos) sRetN := ps_retN.imp fun D σ H h => by
  obtain ⟨σ0, H0, O0, T, δ, ap, st, hm⟩ := h
  exact hm .non σ H ap (st.res (Res.same .non))
/-! ### targets -/
def tG (K : PySem.W.Frag) (g : TgD) (is : List Nat) : TG := fun v σ H Q => ∃ H0 O0 T δ s δ', Ste K H0 O0 σ H δ ((v, s) :: T) ∧ g s δ = some δ' ∧ ∀ σ' H', Apart is σ σ' → Ste K H0 O0 σ' H' δ' T → Q σ' H'
abbrev SG (X : Cx) (e : Expr) (g : TgD) (is : List Nat) : Prop := PG X e (tG X.K g is)
theorem apart_set {i : Nat} {σ : St} {o : Option V} : Apart [i] σ (σ.set i o) := ⟨by simp, fun j h => by rw [List.getElem?_set_ne (fun e => h (by simp [e]))]⟩
theorem sg_name {i : Nat} {x : Str} (hN : X.N.Nodup) (hi : X.N[i]? = some x) (hx : Loc X.env.scope x) (hf : X.fn x = true ∨ X.env.scope.names.lookup x = some .local) : SG X (.Name x pos) (Ev.gName i) [i] := (pg_name hN hi hx hf).imp fun v σ H Q h => by
  obtain ⟨H0, O0, T, δ, s, δ', st, hg, hm⟩ := h
  unfold Ev.gName at hg
  by_cases hl : i < δ.length
  · rw [if_pos hl] at hg
    cases hg
    exact hm _ H apart_set (st.put hl)
  · rw [if_neg hl] at hg
    cases hg
end
end Ev

/-! D9: targets, stores, loops, comprehensions. -/
namespace Ev
open PySem L2
variable [Tb]
def pairs (vs : List V) (ds : List PyData) : List (V × SV) := vs.zip (ds.map SV.dat)
section
variable {K : PySem.W.Frag} {H0 H H' : Hp} {O0 : List Addr} {σ : St} {δ δ' : DS} {T T' : List (V × SV)} {v : V} {s : SV} {d : PyData} {W : WX}
theorem Ste.pushPairs : ∀ {vs : List V} {ds : List PyData} {T : List (V × SV)}, IsAll K H vs ds → Ste K H0 O0 σ H δ T → Ste K H0 O0 σ H δ (pairs vs ds ++ T)
  | _, [], T, .nil, h => h
  | v :: vs, d :: ds, T, .cons a t, h => (Ste.pushPairs t h).res (Res.same a)
theorem Ste.pairsAll : ∀ {vs : List V} {ds : List PyData} {T : List (V × SV)}, vs.length = ds.length → Ste K H0 O0 σ H δ (pairs vs ds ++ T) → IsAll K H vs ds
  | [], [], _, _, _ => .nil
  | v :: vs, d :: ds, T, e, h => by
    obtain ⟨o, en⟩ := h.ent (e := (v, SV.dat d)) (by simp [pairs])
    cases en with
    | dat i => exact .cons i (Ste.pairsAll (T := T) (by simpa using e) h.drop1)
end
def tGs (K : PySem.W.Frag) (gs : List TgD) (is : List Nat) : TGs := fun vs σ H Q => ∃ H0 O0 T δ ds δ', vs.length = ds.length ∧ Ste K H0 O0 σ H δ (pairs vs ds ++ T) ∧ gTupL gs ds δ = some δ' ∧ ∀ σ' H', Apart is σ σ' → Ste K H0 O0 σ' H' δ' T → Q σ' H'
section
variable {X : Cx} {W : WX} {as : List Nat} {pos p : Pos}
theorem sgs_nil : PGs X [] (tGs X.K [] []) := pgs_nil.imp fun vs σ H Q h => by
  obtain ⟨H0, O0, T, δ, ds, δ', hl, st, hg, hm⟩ := h
  cases ds with
  | nil =>
    cases vs with
    | nil => cases hg; exact ⟨rfl, hm σ H (Apart.refl _ _) st⟩
    | cons _ _ => simp at hl
  | cons _ _ => cases hg
theorem each_plain {e : Expr} (h : plainE e = true) (es : List Expr) (env : Env) : assignEach (e :: es) env = (false, assign e env) :: assignEach es env := by
  cases e <;> first | rfl | cases h
theorem sgs_cons {e : Expr} {es : List Expr} {g : TgD} {gs : List TgD} {is js : List Nat} (hp : plainE e = true) (h1 : SG X e g is) (h2 : PGs X es (tGs X.K gs js)) : PGs X (e :: es) (tGs X.K (g :: gs) (is ++ js)) := by
  refine (pgs_cons h1 h2 (by rw [each_plain hp]; rfl)).imp fun vs σ H Q h => ?_
  obtain ⟨H0, O0, T, δ, ds, δ', hl, st, hg, hm⟩ := h
  cases ds with
  | nil => cases hg
  | cons d ds =>
    cases vs with
    | nil => simp at hl
    | cons v vs =>
      obtain ⟨δ1, g1, g2⟩ := Option.bind_eq_some_iff.mp hg
      exact ⟨v, vs, rfl, H0, O0, pairs vs ds ++ T, δ, .dat d, δ1, st, g1, fun σ' H' a st' => ⟨H0, O0, T, δ1, ds, δ', by simpa using hl, st', g2, fun σ2 H2 a2 st2 => hm σ2 H2 ((a.mono fun i h => List.mem_append_left _ h).trans (a2.mono fun i h => List.mem_append_right _ h)) st2⟩⟩
theorem each_len {env : Env} : ∀ {es : List Expr}, es.all plainE = true → (assignEach es env).length = es.length ∧ (assignEach es env).findIdx? (·.1) = none
  | [], _ => ⟨rfl, rfl⟩
  | e :: es, h => by
    rw [List.all_cons, Bool.and_eq_true] at h
    obtain ⟨h1, h2⟩ := each_len (env := env) h.2
    rw [each_plain h.1]
    refine ⟨by simp [h1], ?_⟩
    rw [List.findIdx?_cons]
    simp [h2]
theorem gTupL_len : ∀ {gs : List TgD} {ds : List PyData} {δ δ' : DS}, gTupL gs ds δ = some δ' → ds.length = gs.length
  | [], [], _, _, _ => rfl
  | [], _ :: _, _, _, h => by cases h
  | _ :: _, [], _, _, h => by cases h
  | g :: gs, d :: ds, δ, δ', h => by
    obtain ⟨δ1, g1, g2⟩ := Option.bind_eq_some_iff.mp h
    simp [gTupL_len g2]
theorem tupOf_eq {s : SV} {ds : List PyData} (h : tupOf s = some ds) : s = .dat (.tuple ds) := by
  unfold tupOf at h
  split at h
  · cases h; rfl
  · cases h
theorem sg_tup {es : List Expr} {k : Nat} {gs : List TgD} {is : List Nat} (hc : X.calm = true) (hp : es.all plainE = true) (hl : gs.length = es.length) (h : PGs X es (tGs X.K gs is)) : SG X (.Tuple es k pos) (Ev.gTup gs) is :=
  (pg_tup hc h (each_len hp).1 (each_len hp).2).imp fun v σ H Q h => by
    obtain ⟨H0, O0, T, δ, s, δ', st, hg, hm⟩ := h
    obtain ⟨ds, g1, g2⟩ := Option.bind_eq_some_iff.mp hg
    cases tupOf_eq g1
    obtain ⟨o, en⟩ := st.ent (e := (v, SV.dat (.tuple ds))) (by simp)
    cases en with
    | dat i =>
      cases i with
      | @tup a xs _ hs t => exact ⟨a, xs, rfl, hs, by rw [t.length, gTupL_len g2, hl], H0, O0, T, δ, ds, δ', t.length, (st.drop1).pushPairs t, g2, hm⟩
/-! ### stores -/
theorem sSet_t {g : TgD} {m : M Opd} {is : List Nat} (hin : ∀ i ∈ is, i ∈ as) {D : Ends} {σ : St} {H : Hp} (h : tS X.K W as (sSet g m) D σ H) : tE X.K W m σ H fun x H1 => Gh (fun H2 => tG X.K g is x σ H2 D.nx) H1 := by
  obtain ⟨σ0, H0, O0, T, δ, ap, st, hm⟩ := h
  refine ⟨H0, O0, T, δ, st, ?_⟩
  unfold sSet bnd at hm
  cases e1 : m δ with
  | bad => simp only [e1] at hm; exact hm
  | exn x δ1 => simp only [e1] at hm; exact fun cls d H' a b => hm cls d σ H' ap a b
  | ok o δ1 =>
    simp only [e1] at hm
    intro v H1 ov st1
    cases e2 : take o δ1 with
    | bad => simp only [e2] at hm; exact False.elim hm
    | exn x δ2 => exact absurd e2 take_noexn
    | ok s δ2 =>
      simp only [e2, asg] at hm
      cases e3 : g s δ2 with
      | none => simp only [e3] at hm; exact False.elim hm
      | some δ3 =>
        simp only [e3, ret] at hm
        exact take_gh ov st1 e2 fun H2 _ st2 => ⟨H0, O0, T, δ2, s, δ3, st2, e3, fun σ' H' ap' st' => hm σ' H' (ap.trans (ap'.mono hin)) st'⟩
theorem gName_t {K : PySem.W.Frag} {i : Nat} {v : V} {σ : St} {H : Hp} {Q : St → Hp → Prop} (q : tG K (Ev.gName i) [i] v σ H Q) : Q (σ.set i (some v)) H := by
  obtain ⟨H0, O0, T, δ, s, δ', st, hg, hm⟩ := q
  unfold Ev.gName at hg
  by_cases hl : i < δ.length
  · rw [if_pos hl] at hg
    cases hg
    exact hm _ H apart_set (st.put hl)
  · rw [if_neg hl] at hg
    cases hg
theorem ss_set {i : Nat} {x : Str} {e : Expr} {m : M Opd} (hN : X.N.Nodup) (hi : X.N[i]? = some x) (hx : Loc X.env.scope x) (hf : X.fn x = true ∨ X.env.scope.names.lookup x = some .local) (hin : ∀ j ∈ [i], j ∈ as) (he : SE X W e m)
    (hs : swapsWith e (some (.Name x p)) pos.line X.env = pure false) : SS X W as (.Assign [.Name x p] e pos) (sSet (Ev.gName i) m) := (ps_set hN hi hx he.gh hs hf).imp fun D σ H h => tE_mono (sSet_t (is := [i]) hin h) fun v H1 g => g.mono fun H2 q => gName_t q
theorem ss_asg {tg e : Expr} {g : TgD} {is : List Nat} {m : M Opd} (hin : ∀ j ∈ is, j ∈ as) (he : SE X W e m) (hg : SG X tg g is) (hs : swapsWithSole [tg] e pos.line X.env = pure false) (hw : swappedStores [tg] e X.env = pure none) (hp : plainE tg = true) :
    SS X W as (.Assign [tg] e pos) (sSet g m) := (ps_asg he.gh hg hs hw (by rw [each_plain hp]; rfl)).imp fun D σ H h => sSet_t hin h
/-! ### what is walked -/
def Stand (K : PySem.W.Frag) (E : List (V × SV)) (H : Hp) : Prop := ∀ e ∈ E, ∃ o, Ent K H e o
/-- an iterator over these items, while the things E stand -/
def ItR (K : PySem.W.Frag) (J : It) (ds : List PyData) (E : List (V × SV)) : Prop := ∃ Y, Walk J ds.length (Stand K E) Y ∧ ∀ i H x H', Y i H x H' → Stand K E H → Kp [] H H' ∧ ∃ d, ds[i]? = some d ∧ IsD K H' x d
theorem Ste.stand {K : PySem.W.Frag} {H0 H : Hp} {O0 : List Addr} {σ : St} {δ : DS} {E T : List (V × SV)} (h : Ste K H0 O0 σ H δ (E ++ T)) : Stand K E H := fun e he => h.ent (List.mem_append_left _ he)
def tI (K : PySem.W.Frag) (W : WX) (m : M (List PyData)) : TI := fun σ H R => ∃ H0 O0 T δ, Ste K H0 O0 σ H δ T ∧ match m δ with
  | .ok ds δ' => ∀ J H' E, Ste K H0 O0 σ H' δ' (E ++ T) → ItR K J ds E → R J H'
  | .exn x δ' => ∀ cls d H', ExnOk K H' x cls d → Ste K H0 O0 σ H' δ' T → W cls d σ H'
  | .bad => False
abbrev SI (X : Cx) (W : WX) (tg e : Expr) (m : M (List PyData)) : Prop := PI X tg e (tI X.K W m)
theorem stand_dat {K : PySem.W.Frag} {H : Hp} {v : V} {d : PyData} {E : List (V × SV)} (h : Stand K E H) (m : (v, SV.dat d) ∈ E) : IsD K H v d := by
  obtain ⟨o, en⟩ := h _ m
  cases en with | dat i => exact i
theorem frl_list {K : PySem.W.Frag} {H : Hp} {a : Addr} {ds : List PyData} (i : IsD K H (.ref a) (.list ds)) : ∃ vs, FrL H a vs ∧ IsAll K H vs ds := by
  generalize hv : V.ref a = v at i
  generalize hd : PyData.list ds = d at i
  cases i with
  | lst h t => cases hv; cases hd; exact ⟨_, h, t⟩
  | _ => cases hd
theorem sqt_tup {K : PySem.W.Frag} {H : Hp} {a : Addr} {ds : List PyData} (i : IsD K H (.ref a) (.tuple ds)) : ∃ vs, SqT K H a vs ∧ IsAll K H vs ds := by
  generalize hv : V.ref a = v at i
  generalize hd : PyData.tuple ds = d at i
  cases i with
  | tup h t => cases hv; cases hd; exact ⟨_, h, t⟩
  | _ => cases hd
theorem itr_list {K : PySem.W.Frag} {a : Addr} {ds : List PyData} : ItR K (Itl K a) ds [(.ref a, .dat (.list ds))] := by
  refine ⟨fun i H x H' => H' = H ∧ ∃ vs, FrL H a vs ∧ IsAll K H vs ds ∧ vs[i]? = some x, ⟨fun i H hi g => ?_, fun H g => ?_, fun i H x H' hi g y => ?_⟩, fun i H x H' y g => ?_⟩
  · obtain ⟨vs, h, t⟩ := frl_list (stand_dat g List.mem_cons_self)
    exact walk_list.goes i H (by rw [t.length]; exact hi) (.inl (.inr h))
  · obtain ⟨vs, h, t⟩ := frl_list (stand_dat g List.mem_cons_self)
    rw [← t.length]
    exact walk_list.stops H (.inl (.inr h))
  · obtain ⟨vs, h, t⟩ := frl_list (stand_dat g List.mem_cons_self)
    obtain ⟨e1, e2⟩ := walk_list.yields i H x H' (by rw [t.length]; exact hi) (.inl (.inr h)) y
    exact ⟨e1, vs, h, t, e2⟩
  · obtain ⟨rfl, vs, h, t, e⟩ := y
    obtain ⟨d, e', i'⟩ := t.getV e
    exact ⟨Kp.refl _ _, d, e', i'⟩
theorem itr_tup {K : PySem.W.Frag} {a : Addr} {ds : List PyData} : ItR K (Itt K a) ds [(.ref a, .dat (.tuple ds))] := by
  refine ⟨fun i H x H' => H' = H ∧ ∃ vs, SqT K H a vs ∧ IsAll K H vs ds ∧ vs[i]? = some x, ⟨fun i H hi g => ?_, fun H g => ?_, fun i H x H' hi g y => ?_⟩, fun i H x H' y g => ?_⟩
  · obtain ⟨vs, h, t⟩ := sqt_tup (stand_dat g List.mem_cons_self)
    exact walk_tup.goes i H (by rw [t.length]; exact hi) h
  · obtain ⟨vs, h, t⟩ := sqt_tup (stand_dat g List.mem_cons_self)
    rw [← t.length]
    exact walk_tup.stops H h
  · obtain ⟨vs, h, t⟩ := sqt_tup (stand_dat g List.mem_cons_self)
    obtain ⟨e1, e2⟩ := walk_tup.yields i H x H' (by rw [t.length]; exact hi) h y
    exact ⟨e1, vs, h, t, e2⟩
  · obtain ⟨rfl, vs, h, t, e⟩ := y
    obtain ⟨d, e', i'⟩ := t.getV e
    exact ⟨Kp.refl _ _, d, e', i'⟩
theorem itr_str {K : PySem.W.Frag} {z : Str} : ItR K (Its z) (z.cps.toList.map fun c => .str ⟨#[c]⟩) [] :=
  ⟨_, by rw [List.length_map, Array.length_toList]; exact walk_str.mono (fun _ _ => True.intro) fun _ _ _ _ _ _ y => y, fun i H x H' y _ => by
    obtain ⟨rfl, c, e, rfl⟩ := y
    exact ⟨Kp.refl _ _, .str ⟨#[c]⟩, by rw [List.getElem?_map, Array.getElem?_toList, e]; rfl, .str _⟩⟩
theorem itr_range {K : PySem.W.Frag} {lo : Int} {n : Nat} : ItR K (Itr lo n) ((List.range n).map fun i => .int (lo + (i : Nat))) [] :=
  ⟨_, by rw [List.length_map, List.length_range]; exact walk_range.mono (fun _ _ => True.intro) fun _ _ _ _ hi _ y => (⟨hi, y⟩ : _ ∧ _), fun i H x H' y _ => by
    obtain ⟨hi, rfl, rfl⟩ := y
    exact ⟨Kp.refl _ _, .int (lo + i), by rw [List.getElem?_map, List.getElem?_range hi]; rfl, .int _⟩⟩
def kvsD (kvs : List (Key × V)) (ds : List PyData) : List (PyData × PyData) := (kvs.map fun p => kD p.1).zip ds
theorem dic_inv {K : PySem.W.Frag} {H : Hp} {v : V} {z : List (PyData × PyData)} (i : IsD K H v (.dict z)) (hx : noX z = true) : ∃ a o kvs ds, v = .ref a ∧ H a = some (.frz o (.dK kvs)) ∧ IsAll K H (kvs.map (·.2)) ds ∧ z = kvsD kvs ds := by
  generalize hd : PyData.dict z = d at i
  cases i with
  | dic h t => cases hd; exact ⟨_, _, _, _, rfl, h, t, rfl⟩
  | exn _ _ => cases hd; cases hx
  | exf _ _ _ _ => cases hd; cases hx
  | _ => cases hd
theorem kvsD_fst {kvs : List (Key × V)} {ds : List PyData} (h : (kvs.map (·.2)).length = ds.length) : (kvsD kvs ds).map (·.1) = kvs.map fun p => kD p.1 := by
  unfold kvsD
  rw [List.map_fst_zip]
  rw [← h, List.length_map, List.length_map]; exact Nat.le_refl _
theorem itr_keys {K : PySem.W.Frag} {H : Hp} {a : Addr} {o : Obj} {kvs : List (Key × V)} {z : List (PyData × PyData)} (h : H a = some (.frz o (.dK kvs))) (e : z.map (·.1) = kvs.map fun p => kD p.1)
    (hz : ∀ H', Stand K [(.ref a, .dat (.dict z))] H' → H' a = some (.frz o (.dK kvs))) : ItR K (Itk a o kvs) (z.map (·.1)) [(.ref a, .dat (.dict z))] := by
  rw [e]
  refine ⟨_, by rw [List.length_map]; exact walk_keys.mono hz fun _ _ _ _ _ _ y => y, fun i H x H' y _ => ?_⟩
  obtain ⟨rfl, k, v, e, rfl⟩ := y
  refine ⟨Kp.refl _ _, kD k, by rw [List.getElem?_map, e]; rfl, ?_⟩
  cases k with
  | inl i => exact .int i
  | inr x => exact .str x
theorem takeD_noexn {o : Opd} {δ δ' : DS} {x : Exn} : takeD o δ ≠ .exn x δ' := by
  intro e
  unfold takeD bnd at e
  cases e1 : take o δ with
  | bad => simp only [e1] at e; cases e
  | exn x δ1 => exact take_noexn e1
  | ok s δ1 =>
    simp only [e1] at e
    cases h : s.data <;> simp only [h, ret, stuck] at e <;> cases e
theorem si_e {tg e : Expr} {m : M Opd} (h : SE X W e m) : SI X W tg e (itE m) := by
  refine ⟨fun pins s σ H R I q => ?_⟩
  obtain ⟨H0, O0, T, δ, st, hm⟩ := q
  unfold itE bnd at hm
  cases e1 : m δ with
  | bad => simp only [e1] at hm
  | exn x δ1 =>
    simp only [e1] at hm
    exact (pi_list h).run pins s σ H R I ⟨H0, O0, T, δ, st, by simp only [e1]; exact hm⟩
  | ok o δ1 =>
    simp only [e1] at hm
    cases e2 : takeD o δ1 with
    | bad => simp only [e2] at hm
    | exn x δ2 => exact absurd e2 takeD_noexn
    | ok d δ2 =>
      simp only [e2] at hm
      have key : ∀ (P : V → Hp → Prop), (∀ v H2, Ste X.K H0 O0 σ H2 δ2 T → IsD X.K H2 v d → P v H2) → tE X.K W m σ H fun x H1 => Gh (P x) H1 := fun P hP => ⟨H0, O0, T, δ, st, by
        simp only [e1]
        exact fun v H1 ov st1 => takeD_gh ov st1 e2 fun H2 _ st2 i2 => hP v H2 st2 i2⟩
      cases d with
      | list ds =>
        refine (pi_list h.gh).run pins s σ H R I (key _ fun v H2 st2 i2 => ?_)
        cases i2 with
        | lst hf t => exact ⟨_, rfl, ⟨_, .inl (.inr hf)⟩, hm _ H2 _ (st2.res (Res.same (.lst hf t))) itr_list⟩
      | tuple ds =>
        refine (pi_tup h.gh).run pins s σ H R I (key _ fun v H2 st2 i2 => ?_)
        cases i2 with
        | tup hf t => exact ⟨_, rfl, ⟨_, hf⟩, hm _ H2 _ (st2.res (Res.same (.tup hf t))) itr_tup⟩
      | str z =>
        refine (pi_str h.gh).run pins s σ H R I (key _ fun v H2 st2 i2 => ?_)
        cases i2 with
        | str _ => exact ⟨z, rfl, hm _ H2 [] st2 itr_str⟩
      | dict kvs => exact False.elim hm
      | none => exact False.elim hm
      | bool _ => exact False.elim hm
      | int _ => exact False.elim hm
/-! ### for -/
theorem ss_for {tg it : Expr} {body : List Stmt} {mi : M (List PyData)} {g : TgD} {is : List Nat} {mb : M Flw} (hin : ∀ j ∈ is, j ∈ as) (hp : PassesOwn (model X.prog X.w) X.A X.env X.xe) (hc : X.calm = true) (hi : SI X W tg it mi) (hg : SG X tg g is) (hb : SSs X W as body mb)
    (hs : ∀ x, foldedSetIterable it X.env x = pure x) : SS X W as (.For tg it body [] pos) (sFor mi g mb) := (ps_for hp hc hi hg hb hs).imp fun D σ H h => by
  obtain ⟨σ0, H0, O0, T, δ, ap, st, hm⟩ := h
  refine ⟨H0, O0, T, δ, st, ?_⟩
  unfold sFor bnd at hm
  cases e1 : mi δ with
  | bad => simp only [e1] at hm; exact hm
  | exn x δ1 => simp only [e1] at hm; exact fun cls d H' a b => hm cls d σ H' ap a b
  | ok ds δ1 =>
    simp only [e1] at hm
    intro J H1 E st1 ⟨Y, w, gy⟩
    refine for_it w (fun i σ H => ∃ δ, Apart as σ0 σ ∧ Ste X.K H0 O0 σ H δ (E ++ T) ∧ Post X.K W as σ0 H0 O0 T D (forM g mb (ds.drop i) δ)) ⟨δ1, ap, st1, hm⟩ (fun i σ H _ ⟨δ, _, q, _⟩ => q.stand) (fun i x σ H2 H3 hi q y => ?_) fun σ H2 q => ?_
    · obtain ⟨δ2, ap2, st2, hm2⟩ := q
      obtain ⟨k, d, ed, id⟩ := gy i H2 x H3 y st2.stand
      have ex : ds.drop i = d :: ds.drop (i + 1) := by
        have hl : i < ds.length := hi
        rw [List.drop_eq_getElem_cons hl]
        obtain ⟨_, e⟩ := List.getElem?_eq_some_iff.mp ed
        rw [e]
      rw [ex] at hm2
      unfold forM bnd at hm2
      have st3 : Ste X.K H0 O0 σ H3 δ2 ((x, .dat d) :: (E ++ T)) := st2.res (Res.dat k id)
      cases e4 : g (.dat d) δ2 with
      | none =>
        have e3 : asg g (.dat d) δ2 = .bad := by unfold asg; rw [e4]
        simp only [e3] at hm2
        exact False.elim hm2
      | some δ3 =>
        have e3 : asg g (.dat d) δ2 = .ok () δ3 := by unfold asg; rw [e4]
        simp only [e3] at hm2
        refine ⟨H0, O0, E ++ T, δ2, .dat d, δ3, st3, e4, fun σ4 H4 ap4 st4 => ⟨σ0, H0, O0, E ++ T, δ3, ap2.trans (ap4.mono hin), st4, ?_⟩⟩
        cases e5 : mb δ3 with
        | bad => simp only [e5] at hm2; exact hm2
        | exn x δ5 => simp only [e5] at hm2; exact fun cls d σ H ap' a b => hm2 cls d σ H ap' a b.drop
        | ok f δ5 =>
          simp only [e5] at hm2
          cases f with
          | nx => exact fun σ5 H5 ap5 st5 => ⟨δ5, ap5, st5, hm2⟩
          | ct => exact fun σ5 H5 ap5 st5 => ⟨δ5, ap5, st5, hm2⟩
          | bk => exact fun σ5 H5 ap5 st5 => hm2 σ5 H5 ap5 st5.drop
          | rt s =>
            refine fun v σ5 H5 ap5 st5 => hm2 v σ5 H5 ap5 (Ste.drop (T' := E) (st5.perm ?_))
            exact List.perm_middle.symm
    · obtain ⟨δ2, ap2, st2, hm2⟩ := q
      rw [List.drop_length] at hm2
      exact hm2 σ H2 ap2 st2.drop
end
end Ev

/-! D10: comprehensions, ranges. -/
namespace Ev
open PySem L2
variable [Tb]
section
variable {K : PySem.W.Frag} {H0 H H' : Hp} {O0 : List Addr} {σ σ' : St} {δ δ' : DS} {T T' : List (V × SV)} {v : V} {s : SV} {d : PyData} {W : WX}
theorem Ste.agree (h : Ste K H0 O0 σ H δ T) (hl : σ'.length = σ.length) (e : ∀ i s, at? δ i = some s → σ'[i]? = σ[i]?) : Ste K H0 O0 σ' H δ T := by
  obtain ⟨L, a, R⟩ := h
  exact ⟨L, a.agree hl e, R⟩
theorem at?_set_ne {i j : Nat} {o : Option SV} (h : j ≠ i) : at? (δ.set i o) j = at? δ j := by unfold at?; rw [List.getElem?_set_ne (Ne.symm h)]
theorem at?_set_none {i j : Nat} {s : SV} (h : at? (δ.set i none) j = some s) : j ≠ i ∧ at? δ j = some s := by
  by_cases e : j = i
  · subst e
    by_cases hl : j < δ.length
    · rw [at?_set_same hl] at h; cases h
    · have h2 := at?_lt h
      rw [List.length_set] at h2
      exact absurd h2 hl
  · rw [at?_set_ne e] at h
    exact ⟨e, h⟩
theorem at?_wipe {vs : List Nat} {j : Nat} {s : SV} (h : at? (wipeD vs δ) j = some s) : j ∉ vs ∧ at? δ j = some s := by
  induction vs with
  | nil => exact ⟨by simp, h⟩
  | cons i vs ih =>
    obtain ⟨h1, h2⟩ := at?_set_none (δ := wipeD vs δ) h
    obtain ⟨h3, h4⟩ := ih h2
    exact ⟨by simp [h1, h3], h4⟩
theorem Ste.clear (i : Nat) (h : Ste K H0 O0 σ H δ T) : Ste K H0 O0 σ H (δ.set i none) T := by
  obtain ⟨L, a, R⟩ := h
  obtain ⟨L1, L2, L3, rfl, b⟩ := a.clear i
  refine ⟨_, b, Rel.drop (L := L2) (R.perm ?_)⟩
  rw [List.append_assoc (L1 ++ L2), ← List.append_assoc L2, ← List.append_assoc L2]
  have p : (L1 ++ L2).Perm (L2 ++ L1) := List.perm_append_comm
  have q := p.append_right (L3 ++ T)
  rw [List.append_assoc L2 L1 L3, List.append_assoc L2, List.append_assoc L1 L3 T, ← List.append_assoc L2 L1]
  exact q
theorem Ste.wipe : ∀ {vs : List Nat}, Ste K H0 O0 σ H δ T → Ste K H0 O0 σ H (wipeD vs δ) T
  | [], h => h
  | i :: vs, h => (Ste.wipe (vs := vs) h).clear i
/-- what the own names of a comprehension held ahead of it -/
inductive Saved (σ : St) (δ : DS) : List Nat → List (V × SV) → Prop
  | nil : Saved σ δ [] []
  | hole {i : Nat} {vs : List Nat} {S : List (V × SV)} : at? δ i = none → Saved σ δ vs S → Saved σ δ (i :: vs) S
  | full {i : Nat} {vs : List Nat} {S : List (V × SV)} {v : V} {s : SV} : at? δ i = some s → σ[i]? = some (some v) → Saved σ δ vs S → Saved σ δ (i :: vs) ((v, s) :: S)
theorem wipeD_out {vs : List Nat} {j : Nat} (h : j ∉ vs) : at? (wipeD vs δ) j = at? δ j := by
  induction vs with
  | nil => rfl
  | cons i vs ih =>
    show at? ((wipeD vs δ).set i none) j = _
    rw [at?_set_ne (fun e => h (by simp [e]))]
    exact ih fun m => h (List.mem_cons_of_mem _ m)
theorem wipeD_len {vs : List Nat} : (wipeD vs δ).length = δ.length := by
  induction vs with
  | nil => rfl
  | cons i vs ih => show ((wipeD vs δ).set i none).length = _; rw [List.length_set]; exact ih
theorem Ste.save (h : Ste K H0 O0 σ H δ T) : ∀ {vs : List Nat}, vs.Nodup → ∃ S, Saved σ δ vs S ∧ Ste K H0 O0 σ H (wipeD vs δ) (S ++ T)
  | [], _ => ⟨[], .nil, h⟩
  | i :: vs, n => by
    obtain ⟨ni, n⟩ := List.nodup_cons.mp n
    obtain ⟨S, sv, st⟩ := Ste.save h n
    have ei : at? (wipeD vs δ) i = at? δ i := wipeD_out ni
    cases e : at? δ i with
    | none => exact ⟨S, .hole e sv, st.clear i⟩
    | some s =>
      rw [e] at ei
      obtain ⟨L, a, R⟩ := st
      obtain ⟨v, L1, L2, rfl, ev, _, g⟩ := a.get ei
      refine ⟨(v, s) :: S, .full e ev sv, L1 ++ L2, g, R.perm ?_⟩
      have p : (L1 ++ (v, s) :: L2 ++ (S ++ T)).Perm ((v, s) :: (L1 ++ L2 ++ (S ++ T))) := by
        rw [List.append_assoc, List.append_assoc]; exact List.perm_middle
      exact p.trans (List.perm_middle (a := (v, s)) (l₁ := L1 ++ L2) (l₂ := S ++ T)).symm
theorem backD_out {vs : List Nat} {δ0 : DS} {i : Nat} {o : Option SV} (h : i ∉ vs) : backD vs δ0 (δ.set i o) = (backD vs δ0 δ).set i o := by
  induction vs with
  | nil => rfl
  | cons j vs ih =>
    show (backD vs δ0 (δ.set i o)).set j _ = ((backD vs δ0 δ).set j _).set i o
    rw [ih fun m => h (List.mem_cons_of_mem _ m)]
    exact List.set_comm _ _ (fun e => h (by simp [e]))
theorem wipeD_set {vs : List Nat} {i : Nat} {o : Option SV} (h : i ∉ vs) : wipeD vs (δ.set i o) = (wipeD vs δ).set i o := by
  induction vs with
  | nil => rfl
  | cons j vs ih =>
    show (wipeD vs (δ.set i o)).set j _ = ((wipeD vs δ).set j _).set i o
    rw [ih fun m => h (List.mem_cons_of_mem _ m)]
    exact List.set_comm _ _ (fun e => h (by simp [e]))
theorem backD_len {vs : List Nat} {δ0 : DS} : (backD vs δ0 δ).length = δ.length := by
  induction vs with
  | nil => rfl
  | cons i vs ih => show ((backD vs δ0 δ).set i _).length = _; rw [List.length_set]; exact ih
theorem Ste.back {δ0 : DS} : ∀ {vs : List Nat} {S T : List (V × SV)} {δ : DS}, vs.Nodup → δ.length = δ0.length → Saved σ δ0 vs S → Ste K H0 O0 σ H (wipeD vs δ) (S ++ T) → Ste K H0 O0 σ H (backD vs δ0 δ) T
  | [], _, T, δ, _, _, .nil, h => h
  | i :: vs, S, T, δ, n, hl, sv, h => by
    obtain ⟨ni, n⟩ := List.nodup_cons.mp n
    have h' : Ste K H0 O0 σ H (wipeD vs (δ.set i none)) (S ++ T) := by rw [wipeD_set ni]; exact h
    have eb : backD (i :: vs) δ0 δ = (backD vs δ0 (δ.set i none)).set i (at? δ0 i) := by
      rw [backD_out ni, List.set_set]; rfl
    rw [eb]
    cases sv with
    | hole e sv =>
      rw [e]
      exact (Ste.back n (by simpa using hl) sv h').clear i
    | @full _ _ S v s e ev sv =>
      have h2 : Ste K H0 O0 σ H (wipeD vs (δ.set i none)) (S ++ ((v, s) :: T)) := h'.perm (List.perm_middle (a := (v, s)) (l₁ := S) (l₂ := T)).symm
      obtain ⟨L, a, R⟩ := Ste.back n (by simpa using hl) sv h2
      have hi : i < (backD vs δ0 (δ.set i none)).length := by
        rw [backD_len, List.length_set, hl]; exact at?_lt e
      have hn : at? (backD vs δ0 (δ.set i none)) i = none := by
        rw [backD_out ni]
        exact at?_set_same (by rw [backD_out ni, List.length_set] at hi; exact hi)
      rw [e]
      obtain ⟨L1, L2, rfl, b⟩ := a.fill s ev hn
      refine ⟨_, b, R.perm ?_⟩
      have p : (L1 ++ (v, s) :: L2 ++ T).Perm ((v, s) :: (L1 ++ L2 ++ T)) := by
        rw [List.append_assoc, List.append_assoc]; exact List.perm_middle
      exact (List.perm_middle (a := (v, s)) (l₁ := L1 ++ L2) (l₂ := T)).trans p.symm
theorem wipe_apart {vs : List Nat} (a : Apart vs σ σ') : L2.wipe σ' vs = L2.wipe σ vs := by
  have lens : (L2.wipe σ' vs).length = (L2.wipe σ vs).length := by rw [wipe_length, wipe_length]; exact a.1
  have inn : ∀ (τ : St) (ws : List Nat) (j : Nat), j ∈ ws → j < τ.length → (L2.wipe τ ws)[j]? = some none := by
    intro τ ws j
    induction ws with
    | nil => intro h; simp at h
    | cons w ws ih =>
      intro h hl
      show ((L2.wipe τ ws).set w none)[j]? = _
      by_cases e : w = j
      · subst e
        rw [List.getElem?_set_self (by rw [wipe_length]; exact hl)]
      · rw [List.getElem?_set_ne e]
        rcases List.mem_cons.mp h with q | q
        · exact absurd q.symm e
        · exact ih q hl
  refine List.ext_getElem? fun j => ?_
  by_cases hj : j ∈ vs
  · by_cases hl : j < σ.length
    · rw [inn σ vs j hj hl, inn σ' vs j hj (by rw [a.1]; exact hl)]
    · rw [List.getElem?_eq_none (by rw [wipe_length, a.1]; omega), List.getElem?_eq_none (by rw [wipe_length]; omega)]
  · rw [wipe_out hj, wipe_out hj, a.2 j hj]
theorem apart_wipe {vs : List Nat} : Apart vs σ (L2.wipe σ vs) := ⟨wipe_length _ _, fun j h => wipe_out h⟩
theorem Ste.sigma {vs : List Nat} (h : Ste K H0 O0 σ H (wipeD vs δ) T) (a : Apart vs σ σ') : Ste K H0 O0 σ' H (wipeD vs δ) T := h.agree a.1 fun i s e => a.2 i (at?_wipe e).1
theorem Apart.symm {vs : List Nat} (a : Apart vs σ σ') : Apart vs σ' σ := ⟨a.1.symm, fun j h => (a.2 j h).symm⟩
end
section
variable {X : Cx} {W : WX} {pos p : Pos}
def tIfs (K : PySem.W.Frag) (W : WX) (t : M Bool) : TT := tT K W t
theorem sts_nil : PTs X [] (tT X.K W (ret true)) := ⟨fun pins s σ H Q I h => pts_nil.run pins s σ H Q I (by
  obtain ⟨H0, O0, T, δ, st, hm⟩ := h
  exact hm H st)⟩
theorem sts_one {c : Expr} {t : M Bool} (h : ST X W c t) : PTs X [c] (tT X.K W t) := pts_one h
/-- the turns of a comprehension, from the reading of its parts -/
theorem comp_t {K : PySem.W.Frag} {W' : WX} {mi : M (List PyData)} {g : TgD} {t : M Bool} {e : M Opd} {vs is : List Nat} (his : ∀ i ∈ is, i ∈ vs) (hvs : vs.Nodup) {σ : St} {H : Hp} {Q : VK} (h : tE K W (eComp mi g t e vs) σ H Q) :
    tLc (tI K W mi) (tG K g is) (tT K W' t) (fun σ H Q => tE K W' e σ H fun v H' => Gh (Q v) H') vs σ H Q := by
  obtain ⟨H0, O0, T, δ, st, hm⟩ := h
  refine ⟨H0, O0, T, δ, st, ?_⟩
  unfold eComp bnd at hm
  cases e1 : mi δ with
  | bad => simp only [e1] at hm
  | exn x δ1 => simp only [e1] at hm; exact hm
  | ok ds δ1 =>
    simp only [e1] at hm
    cases e2 : compM g t e vs ds [] δ1 with
    | bad => simp only [e2] at hm
    | exn x δ2 => simp only [e2] at hm
    | ok accF δF =>
      simp only [e2] at hm
      intro J H1 E st1 ⟨Y, w, gy⟩ D hD
      obtain ⟨S, sv, st2⟩ := st1.save hvs
      have st3 : Ste K H0 O0 (L2.wipe σ vs) (upd H1 D (.lst [])) (wipeD vs δ1) ((.ref D, .lst []) :: (S ++ (E ++ T))) := (st2.sigma apart_wipe).res (Res.lst hD .nil)
      refine lc_it (g := tG K g is) (tt := tT K W' t) (te := fun σ H Q => tE K W' e σ H fun v H' => Gh (Q v) H') (vs := vs) (σ := σ) (H1 := H1) (D := D) (Qd := Q (.ref D)) w (fun i H => ∃ δ acc, δ.length = δ1.length ∧ Ste K H0 O0 (L2.wipe σ vs) H (wipeD vs δ) ((.ref D, .lst acc) :: (S ++ (E ++ T))) ∧ compM g t e vs (ds.drop i) acc δ = .ok accF δF) ⟨δ1, [], rfl, st3, e2⟩
        (fun i H _ ⟨δ, acc, _, q, _⟩ => ((q.drop1).drop).stand) (fun i x H2 H3 hi q y => ?_) fun H2 q => ?_
      · obtain ⟨δ2, acc, hl, st4, hc⟩ := q
        obtain ⟨k, d, ed, id⟩ := gy i H2 x H3 y ((st4.drop1).drop).stand
        have ex : ds.drop i = d :: ds.drop (i + 1) := by
          have hl : i < ds.length := hi
          rw [List.drop_eq_getElem_cons hl]
          obtain ⟨_, e⟩ := List.getElem?_eq_some_iff.mp ed
          rw [e]
        rw [ex] at hc
        unfold compM bnd at hc
        simp only at hc
        have st5 : Ste K H0 O0 (L2.wipe σ vs) H3 (wipeD vs δ2) ((x, .dat d) :: ((.ref D, .lst acc) :: (S ++ (E ++ T)))) := st4.res (Res.dat k id)
        cases e4 : g (.dat d) (wipeD vs δ2) with
        | none =>
          have e3 : asg g (.dat d) (wipeD vs δ2) = .bad := by unfold asg; rw [e4]
          simp only [e3] at hc
          cases hc
        | some δ3 =>
          have e3 : asg g (.dat d) (wipeD vs δ2) = .ok () δ3 := by unfold asg; rw [e4]
          simp only [e3] at hc
          refine ⟨H0, O0, _, _, .dat d, δ3, st5, e4, fun σ4 H4 ap st6 => ?_⟩
          have ap1 : Apart vs (L2.wipe σ vs) σ4 := ap.mono his
          have ww : L2.wipe (L2.wipe σ vs) vs = L2.wipe σ vs := wipe_apart apart_wipe
          refine ⟨(wipe_apart ap1).trans ww, H0, O0, _, δ3, st6, ?_⟩
          have len3 : ∀ {δ : DS} {σ : St} {H : Hp} {T : List (V × SV)}, Ste K H0 O0 σ H δ T → σ.length = δ.length := fun ⟨L, a, _⟩ => a.length
          have lσ : σ.length = δ1.length := len3 st1
          cases e5 : t δ3 with
          | bad => simp only [e5] at hc; cases hc
          | exn x δ5 => simp only [e5] at hc; cases hc
          | ok b δ5 =>
            simp only [e5] at hc
            intro H5 st7
            have back : ∀ {δ6 : DS} {H6 : Hp} {acc' : List PyData}, Ste K H0 O0 σ4 H6 δ6 ((.ref D, .lst acc') :: (S ++ (E ++ T))) → δ6.length = δ1.length ∧ Ste K H0 O0 (L2.wipe σ vs) H6 (wipeD vs δ6) ((.ref D, .lst acc') :: (S ++ (E ++ T))) := fun {δ6 H6 acc'} st =>
              ⟨by rw [← len3 st, ap1.1, wipe_length]; exact lσ, (st.wipe (vs := vs)).sigma ap1.symm⟩
            cases b with
            | false =>
              simp only [Bool.false_eq_true, if_false] at hc ⊢
              obtain ⟨b1, b2⟩ := back st7
              exact ⟨δ5, acc, b1, b2, hc⟩
            | true =>
              simp only [if_true] at hc ⊢
              refine ⟨H0, O0, _, δ5, st7, ?_⟩
              cases e6 : e δ5 with
              | bad => simp only [e6] at hc; cases hc
              | exn x δ6 => simp only [e6] at hc; cases hc
              | ok o δ6 =>
                simp only [e6] at hc
                intro v H6 ov st8
                cases e7 : takeD o δ6 with
                | bad => simp only [e7] at hc; cases hc
                | exn x δ7 => exact absurd e7 takeD_noexn
                | ok y δ7 =>
                  simp only [e7] at hc
                  refine takeD_gh ov st8 e7 fun H7 _ st9 iy => ?_
                  by_cases hz : acc.length < sizeLine
                  · simp only [if_pos hz] at hc
                    obtain ⟨oo, en⟩ := st9.ent (e := (V.ref D, SV.lst acc)) (by simp)
                    cases en with
                    | @lst _ ws _ hD7 tD7 =>
                      refine ⟨ws, hD7, by rw [tD7.length]; exact hz, ?_⟩
                      have st10 : Ste K H0 O0 σ4 (upd H7 D (.lst (ws ++ [v]))) δ7 ((.ref D, .lst (acc ++ [y])) :: (S ++ (E ++ T))) := by
                        refine Ste.step (Tc := [(V.ref D, SV.lst acc)]) (Tn := [(V.ref D, SV.lst (acc ++ [y]))]) st9 fun oc hoc nd => ?_
                        cases hoc with
                        | cons c n =>
                          cases n
                          cases c with
                          | lst h2 t2 =>
                            have st' : Stays H7 (upd H7 D (.lst (ws ++ [v]))) := (Kp.at (O := [D]) (by simp)).stays fun b hb => by simp at hb; subst hb; exact ⟨_, hD7, by simp, by simp, by simp, fixed_lst⟩
                            exact ⟨[D], by simpa using Ents.cons (Ent.lst upd_same ((tD7.append (.cons iy .nil)).stays st')) .nil, by simp, fun a ha => .inl (by simpa using ha), Kp.at (by simp)⟩
                      obtain ⟨b1, b2⟩ := back st10
                      exact ⟨δ7, acc ++ [y], b1, b2, hc⟩
                  · simp only [if_neg hz, stuck] at hc
                    cases hc
      · obtain ⟨δ2, acc, hl, st4, hc⟩ := q
        rw [List.drop_length] at hc
        unfold compM ret at hc
        cases hc
        have st5 : Ste K H0 O0 σ H2 (wipeD vs δF) (S ++ (E ++ ((.ref D, .lst accF) :: T))) := by
          refine (st4.sigma apart_wipe.symm).perm ?_
          rw [← List.append_assoc, ← List.append_assoc]
          exact (List.perm_middle (a := (V.ref D, SV.lst accF)) (l₁ := S ++ E) (l₂ := T)).symm
        have st6 := Ste.back hvs hl sv st5
        exact hm (.ref D) H2 True.intro (Ste.drop (T' := E) st6)
end
end Ev

/-! D11: defs by value, and their calls. -/
namespace Ev
open PySem PySem.Spec L2
open PyProof.Rows hiding St
variable [Tb]

/-- what a def makes of what it is handed: its value, and what the handed things are behind it -/
inductive FR where
  | ret (r : SV) (fin : List SV)
  | exn (x : Exn) (fin : List SV)
  | bad
abbrev FN := List SV → FR
def lend : Opd → M SV
  | .val s => ret s
  | .slot i => fun δ => match at? δ i with
    | some s => .ok s (δ.set i none)
    | none => .bad
def lends : List Opd → M (List SV)
  | [] => ret []
  | o :: os => bnd (lend o) fun s => bnd (lends os) fun ss => ret (s :: ss)
def give : List Opd → List SV → DS → DS
  | .slot i :: os, s :: ss, δ => give os ss (δ.set i (some s))
  | .val _ :: os, _ :: ss, δ => give os ss δ
  | _, _, δ => δ
/-- the slots that a row of operands lends -/
def slotsO : List Opd → List Nat
  | [] => []
  | .slot i :: os => i :: slotsO os
  | .val _ :: os => slotsO os
def mCall (F : FN) (os : List Opd) : M Opd := bnd (lends os) fun ss δ => match F ss with
  | .ret r fin => .ok (.val r) (give os fin δ)
  | .exn x fin => .exn x (give os fin δ)
  | .bad => .bad
def eCall (F : FN) (m : M (List Opd)) : M Opd := bnd m (mCall F)
/-- the promise of a def -/
def spF (K : PySem.W.Frag) (np : Nat) (F : FN) : Sp := fun vs H Q E => ∃ H0 O0 T ss, vs.length = np ∧ ss.length = np ∧ Rel K H0 O0 H (vs.zip ss ++ T) ∧ match F ss with
  | .ret r fin => fin.length = np ∧ ∀ v H', Rel K H0 O0 H' ((v, r) :: (vs.zip fin ++ T)) → Q v H'
  | .exn x fin => fin.length = np ∧ ∀ cls d H', ExnOk K H' x cls d → Rel K H0 O0 H' (vs.zip fin ++ T) → E cls d H'
  | .bad => False

section
variable {K : PySem.W.Frag} {H0 H H' : Hp} {O0 : List Addr} {σ : St} {δ δ' : DS} {T T' : List (V × SV)} {v : V} {s : SV} {d : PyData}
/-- lending: the things come out of their slots -/
theorem lends_ok : ∀ {os : List Opd} {vs : List V} {δ δ' : DS} {T : List (V × SV)} {ss : List SV}, OpdVs σ vs os → Ste K H0 O0 σ H δ (tmps vs os ++ T) → lends os δ = .ok ss δ' →
    ss.length = vs.length ∧ Ste K H0 O0 σ H δ' (vs.zip ss ++ T) ∧ ∀ i ∈ slotsO os, at? δ' i = none ∧ i < δ'.length
  | [], _, δ, δ', T, ss, .nil, st, h => by
    cases h
    exact ⟨rfl, st, fun i hi => by simp [slotsO] at hi⟩
  | o :: os, v :: vs, δ, δ', T, ss, .cons a b, st, h => by
    unfold lends bnd at h
    have hlen : ∀ {os : List Opd} {δ δ' : DS} {ss : List SV}, lends os δ = .ok ss δ' → δ'.length = δ.length ∧ ∀ i, at? δ i = none → at? δ' i = none := by
      intro os
      induction os with
      | nil => intro δ δ' ss h; cases h; exact ⟨rfl, fun _ h => h⟩
      | cons o os ih =>
        intro δ δ' ss h
        unfold lends bnd at h
        cases e1 : lend o δ with
        | bad => simp only [e1] at h; cases h
        | exn x δ1 => simp only [e1] at h; cases h
        | ok s δ1 =>
          simp only [e1] at h
          cases e2 : lends os δ1 with
          | bad => simp only [e2] at h; cases h
          | exn x δ2 => simp only [e2] at h; cases h
          | ok ss2 δ2 =>
            simp only [e2, ret] at h
            cases h
            obtain ⟨l2, n2⟩ := ih e2
            cases o with
            | val s0 => cases e1; exact ⟨l2, n2⟩
            | slot i =>
              unfold lend at e1
              cases e3 : at? δ i with
              | none => simp only [e3] at e1; cases e1
              | some s0 =>
                simp only [e3] at e1
                cases e1
                refine ⟨by rw [l2, List.length_set], fun j hj => n2 j ?_⟩
                by_cases q : i = j
                · subst q; exact at?_set_same (at?_lt e3)
                · unfold at? at hj ⊢; rw [List.getElem?_set_ne q]; exact hj
    cases e1 : lend o δ with
    | bad => simp only [e1] at h; cases h
    | exn x δ1 => simp only [e1] at h; cases h
    | ok s δ1 =>
      simp only [e1] at h
      cases e2 : lends os δ1 with
      | bad => simp only [e2] at h; cases h
      | exn x δ2 => simp only [e2] at h; cases h
      | ok ss2 δ2 =>
        simp only [e2, ret] at h
        cases h
        have st1 : Ste K H0 O0 σ H δ1 (tmps vs os ++ ((v, s) :: T)) ∧ ∀ i ∈ slotsO [o], at? δ1 i = none ∧ i < δ1.length := by
          cases o with
          | val s0 => cases e1; exact ⟨by simpa [tmps, tmp] using st, fun i hi => by simp [slotsO] at hi⟩
          | slot i =>
            unfold lend at e1
            cases e3 : at? δ i with
            | none => simp only [e3] at e1; cases e1
            | some s0 =>
              simp only [e3] at e1
              cases e1
              refine ⟨?_, fun j hj => ?_⟩
              · obtain ⟨L, z, R⟩ := st
                obtain ⟨v', L1, L2, rfl, ev, f, g⟩ := z.get e3
                have q : v' = v := by
                  have a' : σ[i]? = some (some v) := a
                  rw [a'] at ev; cases ev; rfl
                subst q
                refine ⟨L1 ++ L2, g, R.perm ?_⟩
                simp only [tmps, tmp, List.append_nil]
                have p1 : (L1 ++ (v', s) :: L2 ++ (tmps vs os ++ T)).Perm ((v', s) :: (L1 ++ L2 ++ (tmps vs os ++ T))) := by
                  rw [List.append_assoc, List.append_assoc]; exact List.perm_middle
                have p2 : (L1 ++ L2 ++ (tmps vs os ++ (v', s) :: T)).Perm ((v', s) :: (L1 ++ L2 ++ (tmps vs os ++ T))) := by
                  rw [← List.append_assoc, ← List.append_assoc]; exact List.perm_middle
                exact p1.trans p2.symm
              · simp [slotsO] at hj
                subst hj
                exact ⟨at?_set_same (at?_lt e3), by rw [List.length_set]; exact at?_lt e3⟩
        obtain ⟨l, st2, em⟩ := lends_ok b st1.1 e2
        refine ⟨by simp [l], ?_, fun i hi => ?_⟩
        · refine st2.perm ?_
          rw [List.zip_cons_cons, List.cons_append]
          exact List.perm_middle
        · obtain ⟨l2, n2⟩ := hlen e2
          cases o with
          | val s0 => exact em i (by simpa [slotsO] using hi)
          | slot j =>
            simp [slotsO] at hi
            rcases hi with rfl | hi
            · obtain ⟨q1, q2⟩ := st1.2 i (by simp [slotsO])
              exact ⟨n2 i q1, by rw [l2]; exact q2⟩
            · exact em i hi
/-- giving back -/
theorem give_ok : ∀ {os : List Opd} {vs : List V} {δ : DS} {T : List (V × SV)} {fin : List SV}, OpdVs σ vs os → fin.length = vs.length → (slotsO os).Nodup → (∀ i ∈ slotsO os, at? δ i = none ∧ i < δ.length) →
    Ste K H0 O0 σ H δ (vs.zip fin ++ T) → Ste K H0 O0 σ H (give os fin δ) T
  | [], _, δ, T, fin, .nil, hl, _, _, st => by
    cases fin with
    | nil => simpa [give] using st
    | cons _ _ => simp at hl
  | o :: os, v :: vs, δ, T, fin, .cons a b, hl, nd, em, st => by
    cases fin with
    | nil => simp at hl
    | cons s fin =>
      have hl' : fin.length = vs.length := by simpa using hl
      have st1 : Ste K H0 O0 σ H δ ((v, s) :: (vs.zip fin ++ T)) := by simpa using st
      cases o with
      | val s0 =>
        show Ste K H0 O0 σ H (give os fin δ) T
        exact give_ok b hl' (by simpa [slotsO] using nd) (fun i hi => em i (by simpa [slotsO] using hi)) st1.drop1
      | slot i =>
        have nd' : i ∉ slotsO os ∧ (slotsO os).Nodup := by simpa [slotsO] using nd
        obtain ⟨e1, e2⟩ := em i (by simp [slotsO])
        show Ste K H0 O0 σ H (give os fin (δ.set i (some s))) T
        refine give_ok b hl' nd'.2 (fun j hj => ?_) ?_
        · obtain ⟨q1, q2⟩ := em j (by simp [slotsO, hj])
          refine ⟨?_, by rw [List.length_set]; exact q2⟩
          have ne : i ≠ j := fun q => nd'.1 (by rw [q]; exact hj)
          unfold at? at q1 ⊢
          rw [List.getElem?_set_ne ne]; exact q1
        · obtain ⟨L, z, R⟩ := st1
          obtain ⟨L1, L2, rfl, g⟩ := z.fill s a e1
          refine ⟨_, g, R.perm ?_⟩
          have p1 : (L1 ++ L2 ++ (v, s) :: (vs.zip fin ++ T)).Perm ((v, s) :: (L1 ++ L2 ++ (vs.zip fin ++ T))) := List.perm_middle
          have p2 : (L1 ++ (v, s) :: L2 ++ (vs.zip fin ++ T)).Perm ((v, s) :: (L1 ++ L2 ++ (vs.zip fin ++ T))) := by
            rw [List.append_assoc, List.append_assoc]; exact List.perm_middle
          exact p1.trans p2.symm
theorem lends_nodup : ∀ {os : List Opd} {δ δ' : DS} {ss : List SV}, lends os δ = .ok ss δ' → (slotsO os).Nodup ∧ ∀ i, at? δ i = none → i ∉ slotsO os
  | [], δ, δ', ss, h => ⟨List.nodup_nil, fun i _ => by simp [slotsO]⟩
  | o :: os, δ, δ', ss, h => by
    unfold lends bnd at h
    cases e1 : lend o δ with
    | bad => simp only [e1] at h; cases h
    | exn x δ1 => simp only [e1] at h; cases h
    | ok s δ1 =>
      simp only [e1] at h
      cases e2 : lends os δ1 with
      | bad => simp only [e2] at h; cases h
      | exn x δ2 => simp only [e2] at h; cases h
      | ok ss2 δ2 =>
        obtain ⟨n, f⟩ := lends_nodup e2
        cases o with
        | val s0 => cases e1; exact ⟨n, f⟩
        | slot i =>
          unfold lend at e1
          cases e3 : at? δ i with
          | none => simp only [e3] at e1; cases e1
          | some s0 =>
            simp only [e3] at e1
            cases e1
            refine ⟨by simpa [slotsO] using ⟨f i (at?_set_same (at?_lt e3)), n⟩, fun j hj => ?_⟩
            have ne : i ≠ j := fun q => by rw [q, hj] at e3; cases e3
            have : at? (δ.set i none) j = none := by unfold at? at hj ⊢; rw [List.getElem?_set_ne ne]; exact hj
            simpa [slotsO, ne.symm] using f j this
theorem lends_noexn : ∀ {os : List Opd} {δ δ' : DS} {x : Exn}, lends os δ ≠ .exn x δ'
  | [], δ, δ', x => by simp [lends, ret]
  | o :: os, δ, δ', x => by
    intro h
    unfold lends bnd at h
    cases e1 : lend o δ with
    | bad => simp only [e1] at h; cases h
    | exn y δ1 =>
      cases o with
      | val s => cases e1
      | slot i =>
        unfold lend at e1
        cases e3 : at? δ i <;> simp only [e3] at e1 <;> cases e1
    | ok s δ1 =>
      simp only [e1] at h
      cases e2 : lends os δ1 with
      | bad => simp only [e2] at h; cases h
      | exn y δ2 => exact lends_noexn e2
      | ok ss δ2 => simp only [e2, ret] at h; cases h
end

/-! ### a call of a def -/
section
variable {X : Cx} {W : WX} {as : List Nat} {pos p : Pos}
/-- how many it takes -/
def Ar (np : Nat) (F : FN) : Prop := ∀ ss, match F ss with
  | .ret _ fin => ss.length = np ∧ fin.length = np
  | .exn _ fin => ss.length = np ∧ fin.length = np
  | .bad => True
/-- the promise is met at a call -/
theorem call_t {K : PySem.W.Frag} {np : Nat} {F : FN} (hn : Ar np F) {m : M (List Opd)} {σ : St} {H : Hp} {Q : VK} (h : tE K W (eCall F m) σ H Q) : tA K W m σ H fun vs H1 => spF K np F vs H1 Q (WE W σ) := by
  obtain ⟨H0, O0, T, δ, st, hm⟩ := h
  refine ⟨H0, O0, T, δ, st, ?_⟩
  unfold eCall bnd at hm
  cases e1 : m δ with
  | bad => simp only [e1] at hm
  | exn x δ1 => simp only [e1] at hm; exact hm
  | ok os δ1 =>
    simp only [e1] at hm
    intro vs H1 ov st1
    unfold mCall bnd at hm
    cases e2 : lends os δ1 with
    | bad => simp only [e2] at hm
    | exn x δ2 => exact absurd e2 lends_noexn
    | ok ss δ2 =>
      simp only [e2] at hm
      obtain ⟨l2, st2, em⟩ := lends_ok ov st1 e2
      obtain ⟨nd, _⟩ := lends_nodup e2
      obtain ⟨L, z, R⟩ := st2
      have ar := hn ss
      have pm : ∀ (fin : List SV), (vs.zip fin ++ (L ++ T)).Perm (L ++ (vs.zip fin ++ T)) := fun fin => by
        rw [← List.append_assoc, ← List.append_assoc]
        exact List.perm_append_comm.append_right T
      cases e3 : F ss with
      | bad => simp only [e3] at hm
      | exn x fin =>
        simp only [e3] at hm ar
        refine ⟨H0, O0, L ++ T, ss, l2.symm.trans ar.1, ar.1, R.perm (pm ss).symm, ?_⟩
        simp only [e3]
        refine ⟨ar.2, fun cls d H' a R' => hm cls d H' a (give_ok ov (by rw [ar.2, ← ar.1, l2]) nd em ⟨L, z, R'.perm (pm fin)⟩)⟩
      | ret r fin =>
        simp only [e3] at hm ar
        refine ⟨H0, O0, L ++ T, ss, l2.symm.trans ar.1, ar.1, R.perm (pm ss).symm, ?_⟩
        simp only [e3]
        refine ⟨ar.2, fun v H' R' => hm v H' True.intro (give_ok ov (by rw [ar.2, ← ar.1, l2]) nd em ⟨L, z, R'.perm ?_⟩)⟩
        have p1 : ((v, r) :: (vs.zip fin ++ (L ++ T))).Perm ((v, r) :: (L ++ (vs.zip fin ++ T))) := (pm fin).cons _
        refine p1.trans ?_
        have p2 : (L ++ (vs.zip fin ++ (tmp v (.val r) ++ T))).Perm ((v, r) :: (L ++ (vs.zip fin ++ T))) := by
          have q : (vs.zip fin ++ ((v, r) :: T)).Perm ((v, r) :: (vs.zip fin ++ T)) := List.perm_middle
          have q2 : (L ++ (v, r) :: (vs.zip fin ++ T)).Perm ((v, r) :: (L ++ (vs.zip fin ++ T))) := List.perm_middle
          exact (q.append_left L).trans q2
        exact p2.symm
theorem spF_len {K : PySem.W.Frag} {np : Nat} {F : FN} {vs : List V} {H : Hp} {Q : VK} {E : XK} (h : spF K np F vs H Q E) : vs.length = np := by
  obtain ⟨_, _, _, _, l, _⟩ := h
  exact l
/-- a def's promise where no container's text is under way -/
structure FnG (P : Program) (w : World) (K : PySem.W.Frag) (mg : Str → Option Value) (base : Heap) (k : Nat) (f : Addr) (fd : FuncData) (ps : List Str) (sp : Sp) : Prop where
  size : ∀ vs H Q E, sp vs H Q E → vs.length = ps.length
  go : ∀ (A : Around) (outer : List Env) (s : Shared) (H : Hp) (args : Args) (us : List Value) (vs : List V) (Q : VK) (E : XK), A.guards = some [] → Room k A → Env0 P w K mg base A outer s H → BindsTo s fd args (ps.zip us) → Vals vs us → sp vs H Q E → codeAny (model P w) A (.call (.ref f) args) (CR (L2.CX P w) outer P w H s Q E) s
theorem FnG.run1 {k : Nat} {f : Addr} {fd : FuncData} {ps : List Str} {sp : Sp} (F : FnG X.prog X.w X.K X.mg X.base k f fd ps sp) (hG : X.A.guards = some []) (hr : Room k X.A) (hb : Binds X.K fd ps []) (tk : Takes X W)
    {pins : List (Addr × Obj)} {σ : St} {H : Hp} {s : Shared} {Q : VK} {us : List Value} {vs : List V} (I : Inv X pins σ H s) (r : Vals vs us) (h : sp vs H Q (WE W σ)) : wpAny (model X.prog X.w) X.A (call (.ref f) us) (EP X pins σ Q) X.xe s := by
  have b := hb s us I.kIn (by rw [List.append_nil, ← r.length]; exact F.size _ _ _ _ h)
  rw [List.append_nil] at b
  refine wpAny_call (codeAny_mono (F.go X.A X.stack s H ⟨us, []⟩ us vs Q (WE W σ) hG hr I.env0 b r h) fun out s' hq => ?_)
  rcases out with x | fl
  · exact passAt tk σ pins H s x s' I hq
  · rcases fl with _ | _ | _ | u
    all_goals first | exact I.after hq | exact False.elim hq
/-- a def that may be called by its name -/
structure CalF (P : Program) (w : World) (K : PySem.W.Frag) (mg : Str → Option Value) (base : Heap) (k : Nat) (x : Str) (np : Nat) (F : FN) : Prop where
  ex : ∃ (f : Addr) (fd : FuncData) (ps : List Str), FnG P w K mg base k f fd ps (spF K np F) ∧ mg x = some (.ref f) ∧ PySem.W.keepIn K (.ref f) = true ∧ Binds K fd ps []
  ar : Ar np F
theorem se_call {x : Str} {np : Nat} {F : FN} {k : Nat} {e : Expr} {es : List Expr} {m : M (List Opd)} (c : CalF X.prog X.w X.K X.mg X.base k x np F) (tk : Takes X W) (hG : X.A.guards = some []) (hr : Room k X.A) (hg : Gl X x) (ha : SA X W (e :: es) m) (hp : plainE e = true)
    (hdb : (x == ("__debug__" : Str)) = false) (hpl : (backTo pos (starEach es X.env)).any (·.1) = false) : SE X W (.Call (.Name x p) (e :: es) [] pos) (eCall F m) := by
  obtain ⟨⟨f, fd, ps, ok, hm, hk, hb⟩, ar⟩ := c
  refine ⟨fun pins s σ H Q I h => wpAny_Call_Name_kw (ld_glob I hg hm ?_ hdb)⟩
  refine PySem.W.callWith_K (h₀ := X.base) I.ok.mod.kin hk (thn (ha.run pos pins s σ H _ I (call_t ar h)) fun us s1 ⟨vs, H1, I1, r, q⟩ => ⟨I1.kIn, ?_⟩) (star_plain hp es X.env) hpl
  exact ok.run1 hG hr hb tk I1 r q
end

/-! ### a def by its body -/
/-- what the parameters' things are at the end: a slot that may be written was handed data -/
def fins : List (Bool × SV) → DS → Option (List SV)
  | [], _ => some []
  | (true, s) :: r, _ :: δ => (fins r δ).map (s :: ·)
  | (false, _) :: r, some s :: δ => (fins r δ).map (s :: ·)
  | _, _ => none
def isDat : SV → Bool
  | .dat _ => true
  | _ => false
def marks (as : List Nat) : Nat → List SV → List (Bool × SV)
  | _, [] => []
  | n, s :: ss => (as.contains n, s) :: marks as (n + 1) ss
def fnOut (bs : List (Bool × SV)) : R Flw → FR
  | .ok (.rt r) δ => match fins bs δ with
    | some fin => .ret r fin
    | none => .bad
  | .ok .nx δ => match fins bs δ with
    | some fin => .ret (.dat .none) fin
    | none => .bad
  | .exn x δ => match fins bs δ with
    | some fin => .exn x fin
    | none => .bad
  | _ => .bad
/-- np parameters, nl other names, as: the slots that the body writes -/
def fnOf (np nl : Nat) (as : List Nat) (m : M Flw) : FN := fun ss =>
  if ss.length = np ∧ ((marks as 0 ss).all fun b => !b.1 || isDat b.2) = true then fnOut (marks as 0 ss) (m (ss.map some ++ List.replicate nl none)) else .bad
theorem fins_len : ∀ {bs : List (Bool × SV)} {δ : DS} {fin : List SV}, fins bs δ = some fin → fin.length = bs.length
  | [], _, _, h => by cases h; rfl
  | (true, s) :: r, _ :: δ, fin, h => by
    obtain ⟨f, e, rfl⟩ := Option.map_eq_some_iff.mp h
    simp [fins_len e]
  | (false, _) :: r, some s :: δ, fin, h => by
    obtain ⟨f, e, rfl⟩ := Option.map_eq_some_iff.mp h
    simp [fins_len e]
  | (false, _) :: r, none :: δ, fin, h => by cases h
  | (true, _) :: r, [], fin, h => by cases h
  | (false, _) :: r, [], fin, h => by cases h
theorem marks_len {as : List Nat} : ∀ {n : Nat} {ss : List SV}, (marks as n ss).length = ss.length
  | _, [] => rfl
  | n, s :: ss => by simp [marks, marks_len]
theorem fnOut_ar {bs : List (Bool × SV)} {r : R Flw} {np : Nat} (h : bs.length = np) : match fnOut bs r with
  | .ret _ fin => np = np ∧ fin.length = np
  | .exn _ fin => np = np ∧ fin.length = np
  | .bad => True := by
  have l : ∀ {δ : DS} {fin : List SV}, fins bs δ = some fin → np = np ∧ fin.length = np := fun e => ⟨rfl, by rw [fins_len e, h]⟩
  cases r with
  | bad => simp [fnOut]
  | exn x δ =>
    simp only [fnOut]
    cases e2 : fins bs δ with
    | none => trivial
    | some fin => exact ⟨True.intro, (l e2).2⟩
  | ok f δ =>
    cases f with
    | nx =>
      simp only [fnOut]
      cases e2 : fins bs δ with
      | none => trivial
      | some fin => exact ⟨True.intro, (l e2).2⟩
    | bk => simp [fnOut]
    | ct => simp [fnOut]
    | rt r =>
      simp only [fnOut]
      cases e2 : fins bs δ with
      | none => trivial
      | some fin => exact ⟨True.intro, (l e2).2⟩
theorem fnOf_ar (np nl : Nat) (as : List Nat) (m : M Flw) : Ar np (fnOf np nl as m) := fun ss => by
  unfold fnOf
  by_cases h : ss.length = np ∧ ((marks as 0 ss).all fun b => !b.1 || isDat b.2) = true
  · rw [if_pos h]
    have q := fnOut_ar (r := m (ss.map some ++ List.replicate nl none)) (bs := marks as 0 ss) (np := np) (by rw [marks_len]; exact h.1)
    rw [h.1]
    exact q
  · rw [if_neg h]; trivial
section
variable {K : PySem.W.Frag} {H0 H H' : Hp} {O0 : List Addr} {σ : St} {δ δ' : DS} {T T' : List (V × SV)} {v : V} {s : SV} {d : PyData}
/-- the handed data among the arguments -/
def datsOf : List V → List (Bool × SV) → List (V × SV)
  | v :: vs, (true, s) :: r => (v, s) :: datsOf vs r
  | _ :: vs, (false, _) :: r => datsOf vs r
  | _, _ => []
theorem Sl.start : ∀ {vs : List V} {ss : List SV} {n : Nat}, vs.length = ss.length → Sl (vs.map some ++ List.replicate n none) (ss.map some ++ List.replicate n none) (vs.zip ss)
  | [], [], n, _ => by
    simp only [List.map_nil, List.nil_append, List.zip_nil_right]
    induction n with
    | zero => exact .nil
    | succ n ih => exact .hole ih
  | v :: vs, s :: ss, n, h => .full (Sl.start (by simpa using h))
  | [], _ :: _, _, h => by simp at h
  | _ :: _, [], _, h => by simp at h
/-- data that stand may be told twice -/
theorem Rel.dup {L : List (V × SV)} {D : List (V × SV)} (R : Rel K H0 O0 H L) (hd : ∀ e ∈ D, e ∈ L ∧ isDat e.2 = true) : Rel K H0 O0 H (D ++ L) := by
  induction D with
  | nil => exact R
  | cons e D ih =>
    have R1 := ih fun x hx => hd x (List.mem_cons_of_mem _ hx)
    obtain ⟨m, q⟩ := hd e List.mem_cons_self
    obtain ⟨o, en⟩ := R.ent m
    obtain ⟨v, s⟩ := e
    cases s with
    | dat d =>
      cases en with
      | dat i => exact R1.push (fun O => Kp.refl _ _) i
    | _ => cases q
theorem fins_ok : ∀ {bs : List (Bool × SV)} {vs : List V} {σ : St} {δ : DS} {L A T : List (V × SV)} {fin : List SV}, Sl σ δ L → vs.length = bs.length → (∀ (i : Nat) (v : V) (s : SV), vs[i]? = some v → bs[i]? = some (false, s) → σ[i]? = some (some v)) →
    fins bs δ = some fin → Rel K H0 O0 H (A ++ (datsOf vs bs ++ (L ++ T))) → Rel K H0 O0 H (A ++ (vs.zip fin ++ T))
  | [], [], σ, δ, L, A, T, fin, z, _, _, h, R => by
    cases h
    have p : (A ++ ([] ++ (L ++ T))).Perm (L ++ (A ++ T)) := by
      rw [List.nil_append, ← List.append_assoc, ← List.append_assoc]
      exact List.perm_append_comm.append_right T
    exact (R.perm p).drop
  | (true, s) :: r, v :: vs, x :: σ, o :: δ, L, A, T, fin, z, hl, ha, h, R => by
    obtain ⟨f, e, rfl⟩ := Option.map_eq_some_iff.mp (show (fins r δ).map (s :: ·) = some fin from h)
    have ha' : ∀ (i : Nat) (v : V) (s : SV), vs[i]? = some v → r[i]? = some (false, s) → σ[i]? = some (some v) := fun i v s h1 h2 => by simpa using ha (i + 1) v s (by simpa using h1) (by simpa using h2)
    have R1 : Rel K H0 O0 H ((A ++ [(v, s)]) ++ (datsOf vs r ++ (L ++ T))) := by simpa [datsOf] using R
    have hl' : vs.length = r.length := by simpa using hl
    have R2 : Rel K H0 O0 H ((A ++ [(v, s)]) ++ (vs.zip f ++ T)) := by
      cases z with
      | hole z => exact fins_ok z hl' ha' e R1
      | @full v0 s0 _ _ L0 z =>
        refine fins_ok (L := L0) z hl' ha' e ?_
        have p : ((A ++ [(v, s)]) ++ (datsOf vs r ++ ((v0, s0) :: L0 ++ T))).Perm ((v0, s0) :: ((A ++ [(v, s)]) ++ (datsOf vs r ++ (L0 ++ T)))) := by
          have q1 : (datsOf vs r ++ ((v0, s0) :: (L0 ++ T))).Perm ((v0, s0) :: (datsOf vs r ++ (L0 ++ T))) := List.perm_middle
          have q2 : ((A ++ [(v, s)]) ++ ((v0, s0) :: (datsOf vs r ++ (L0 ++ T)))).Perm ((v0, s0) :: ((A ++ [(v, s)]) ++ (datsOf vs r ++ (L0 ++ T)))) := List.perm_middle
          exact (q1.append_left _).trans q2
        exact Rel.drop (L := [(v0, s0)]) (R1.perm p)
    simpa using R2
  | (false, s1) :: r, v :: vs, _ :: σ, _ :: δ, _ :: L0, A, T, fin, .full (v := v0) (s := s0) z, hl, ha, h, R => by
    obtain ⟨f, e, rfl⟩ := Option.map_eq_some_iff.mp (show (fins r δ).map (s0 :: ·) = some fin from h)
    have ha' : ∀ (i : Nat) (v : V) (s : SV), vs[i]? = some v → r[i]? = some (false, s) → σ[i]? = some (some v) := fun i v s h1 h2 => by simpa using ha (i + 1) v s (by simpa using h1) (by simpa using h2)
    have hl' : vs.length = r.length := by simpa using hl
    have ev : v0 = v := by
      have := ha 0 v s1 rfl rfl
      simpa using this
    subst ev
    have p : (A ++ (datsOf (v0 :: vs) ((false, s1) :: r) ++ ((v0, s0) :: L0 ++ T))).Perm ((A ++ [(v0, s0)]) ++ (datsOf vs r ++ (L0 ++ T))) := by
      have q1 : (datsOf vs r ++ ((v0, s0) :: (L0 ++ T))).Perm ((v0, s0) :: (datsOf vs r ++ (L0 ++ T))) := List.perm_middle
      have e2 : (A ++ [(v0, s0)]) ++ (datsOf vs r ++ (L0 ++ T)) = A ++ ((v0, s0) :: (datsOf vs r ++ (L0 ++ T))) := by simp
      rw [e2]
      exact q1.append_left A
    have R2 := fins_ok (A := A ++ [(v0, s0)]) z hl' ha' e (R.perm p)
    simpa using R2
  | (false, _) :: r, v :: vs, _ :: σ, _ :: δ, L, A, T, fin, .hole z, _, _, h, _ => by cases h
  | _ :: _, [], _, _, _, _, _, _, _, hl, _, _, _ => by simp at hl
  | [], _ :: _, _, _, _, _, _, _, _, hl, _, _, _ => by simp at hl
  | (true, _) :: r, v :: vs, [], _, _, _, _, _, .nil, _, _, h, _ => by cases h
  | (false, _) :: r, v :: vs, [], _, _, _, _, _, .nil, _, _, h, _ => by cases h
end
/-- the context of a def's body -/
abbrev Bx (P : Program) (w : World) (K : PySem.W.Frag) (mg : Str → Option Value) (base : Heap) (N : List Str) (qual : Str) (scope : Scope) (f : Addr) (cdv : Value) (A : Around) (outer : List Env) (s : Shared) (H : Hp) (E : XK) : Cx := cxOf (L2.CX P w) P w K mg base N qual scope f cdv A outer s H E
section
variable {P : Program} {w : World} {K : PySem.W.Frag} {mg : Str → Option Value} {base : Heap}
theorem marks_get {as : List Nat} : ∀ {n : Nat} {ss : List SV} {i : Nat} {b : Bool} {s : SV}, (marks as n ss)[i]? = some (b, s) → b = as.contains (n + i) ∧ ss[i]? = some s
  | _, [], i, b, s, h => by simp [marks] at h
  | n, s0 :: ss, 0, b, s, h => by
    simp [marks] at h
    exact ⟨by rw [← h.1]; simp, by simp [h.2]⟩
  | n, s0 :: ss, i + 1, b, s, h => by
    simp only [marks, List.getElem?_cons_succ] at h
    obtain ⟨a, c⟩ := marks_get h
    exact ⟨by rw [a]; congr 1; omega, by simpa using c⟩
theorem datsOf_mem {as : List Nat} : ∀ {n : Nat} {vs : List V} {ss : List SV}, ((marks as n ss).all fun b => !b.1 || isDat b.2) = true → ∀ e ∈ datsOf vs (marks as n ss), e ∈ vs.zip ss ∧ isDat e.2 = true
  | _, _, [], _, e, he => by cases ‹List V› <;> simp [marks, datsOf] at he
  | _, [], _ :: _, _, e, he => by simp [marks, datsOf] at he
  | n, v :: vs, s :: ss, h, e, he => by
    simp only [marks, List.all_cons, Bool.and_eq_true] at h
    have ih := datsOf_mem (vs := vs) h.2
    simp only [marks] at he
    cases hb : as.contains n with
    | true =>
      rw [hb] at he h
      simp only [datsOf, List.mem_cons] at he
      rcases he with rfl | he
      · exact ⟨by simp, by simpa using h.1⟩
      · exact ⟨by rw [List.zip_cons_cons]; exact List.mem_cons_of_mem _ (ih e he).1, (ih e he).2⟩
    | false =>
      rw [hb] at he
      simp only [datsOf] at he
      exact ⟨by rw [List.zip_cons_cons]; exact List.mem_cons_of_mem _ (ih e he).1, (ih e he).2⟩
/-- the code object of the def at f -/
def CdO (K : PySem.W.Frag) (f : Addr) (cdv : Value) : Prop := ∃ oc od fd osl, K.lookup f = some ⟨oc, od, .func fd, osl⟩ ∧ fd.code = cdv
/-- a def of the text, called in a state -/
theorem fn_run {x qual : Str} {params : Arguments} {body : List Stmt} {scope : Scope} {f : Addr} {fd : FuncData} {N ps : List Str} {k : Nat} (F : FunD K x qual params body scope [] [] f fd) (S : FnScope N ps scope) {A : Around} {outer : List Env} {s : Shared} {H : Hp} {args : Args} {us : List Value} {vs : List V} {Q : VK} {E : XK}
    (hr : Room (k + 1) A) (e0 : Env0 P w K mg base A outer s H) (hb : BindsTo s fd args (ps.zip us)) (r : Vals vs us) (len : vs.length = ps.length)
    (hbody : ∀ cdv : Value, CdO K f cdv → Room k (A.deeper (PyProof.Rows.envOfC qual scope s.heap.objs.size f cdv)) → ∃ t, PSs (Bx P w K mg base N qual scope f cdv A outer s H E) body t ∧ t { nx := fun _ H' => Q .non H', rt := Q } (L2.start N vs) H) :
    codeAny (model P w) A (.call (.ref f) args) (CR (L2.CX P w) outer P w H s Q E) s := by
  obtain ⟨oc, od, dV, kV, doc, pm, an, cdv, ct, osl, rfl, lk, hcd, _, _⟩ := F.ex
  have KX : K.In s.heap := e0.mod.kin.keeps fun b o e => (e0.bs b o e).1
  have kd : ∀ y ∈ ps.zip us, scope.names.lookup y.1 = some .local ∨ (scope.names.lookup y.1 = some .cell ∧ ((cellsFrom (s.heap.objs.size + 1) scope.names []).lookup y.1).isSome = true) := by
    rintro ⟨n, v⟩ hy
    exact (S.par n (List.of_mem_zip hy).1).imp id fun q => ⟨q, PySem.W.cellsFrom_some _ _ _ (.inl q)⟩
  refine codeAny_call_function hr.depth (KX _ _ lk) rfl S.co S.gen rfl (PySem.W.codeRec_of KX hcd) (hb _ _ _ _ (wpAny_newFunctionEnv_cells S.kind kd fun env he s1 x => ?_))
  subst he
  refine ⟨(e0.mod.nolimit.keeps fun b o e => (e0.bs b o e).1).keeps x.toInCall.keep, codeAny_func ?_⟩
  obtain ⟨t, ht, hq⟩ := hbody cdv ⟨_, _, _, _, lk, rfl⟩ (hr.deeper _)
  refine wpAny_mono (ht.run [] s1 (L2.start N vs) H _ (inv_start S hr.hd e0 len r x) hq) (fun fl s' hs => ?_) fun _ _ hs => hs
  rcases fl with _ | _ | _ | u
  · obtain ⟨σ', H', J, q⟩ := hs; exact ⟨V.non, H', J.os, J.bare, J.base, J.hok, rfl, q⟩
  · obtain ⟨_, _, _, q⟩ := hs; exact q.elim
  · obtain ⟨_, _, _, q⟩ := hs; exact q.elim
  · obtain ⟨v, σ', H', J, rv, q⟩ := hs; exact ⟨v, H', J.os, J.bare, J.base, J.hok, rv, q⟩
/-- a body's worth, met at a call -/
theorem fn_body {qual : Str} {body : List Stmt} {scope : Scope} {f : Addr} {N : List Str} {np nl : Nat} {as : List Nat} {m : M Flw} {cdv : Value} {A : Around} {outer : List Env} {s : Shared} {H : Hp} {vs : List V} {Q : VK} {E : XK} (hN : N.length = np + nl)
    (hss : SSs (Bx P w K mg base N qual scope f cdv A outer s H E) (fun cls d _ H => E cls d H) as body m) (h : spF K np (fnOf np nl as m) vs H Q E) :
    ∃ t, PSs (Bx P w K mg base N qual scope f cdv A outer s H E) body t ∧ t { nx := fun _ H' => Q .non H', rt := Q } (L2.start N vs) H := by
  refine ⟨_, hss, ?_⟩
  obtain ⟨H0, O0, T, ss, l1, l2, R, hq⟩ := h
  unfold fnOf at hq
  by_cases hc : ss.length = np ∧ ((marks as 0 ss).all fun b => !b.1 || isDat b.2) = true
  · rw [if_pos hc] at hq
    have hst : L2.start N vs = vs.map some ++ List.replicate nl none := by
      unfold L2.start
      rw [hN, l1, Nat.add_sub_cancel_left]
    have z0 : Sl (L2.start N vs) (ss.map some ++ List.replicate nl none) (vs.zip ss) := by rw [hst]; exact Sl.start (l1.trans l2.symm)
    have R1 : Rel K H0 O0 H (vs.zip ss ++ (datsOf vs (marks as 0 ss) ++ T)) := by
      have R2 : Rel K H0 O0 H (datsOf vs (marks as 0 ss) ++ (vs.zip ss ++ T)) := R.dup fun e he => by
        obtain ⟨a, b⟩ := datsOf_mem hc.2 e he
        exact ⟨List.mem_append_left _ a, b⟩
      refine R2.perm ?_
      rw [← List.append_assoc, ← List.append_assoc]
      exact List.perm_append_comm.append_right T
    refine ⟨L2.start N vs, H0, O0, datsOf vs (marks as 0 ss) ++ T, _, Apart.refl _ _, ⟨_, z0, R1⟩, ?_⟩
    -- behind the body
    have key : ∀ {σ' : St} {H' : Hp} {δ' : DS} {A0 : List (V × SV)} {fin : List SV}, Apart as (L2.start N vs) σ' → Ste K H0 O0 σ' H' δ' (A0 ++ (datsOf vs (marks as 0 ss) ++ T)) → fins (marks as 0 ss) δ' = some fin → Rel K H0 O0 H' (A0 ++ (vs.zip fin ++ T)) := fun {σ' H' δ' A0 fin} ap st e => by
      obtain ⟨L, z, R⟩ := st
      refine fins_ok z (by rw [marks_len, l1, l2]) (fun i v s h1 h2 => ?_) e (R.perm ?_)
      · obtain ⟨b1, b2⟩ := marks_get h2
        rw [ap.2 i (fun hm => by
          have : as.contains (0 + i) = true := by rw [Nat.zero_add]; exact List.contains_iff_mem.mpr hm
          rw [← b1] at this; cases this), hst, List.getElem?_append_left (by rw [List.length_map]; exact (List.getElem?_eq_some_iff.mp h1).1), List.getElem?_map, h1]
        rfl
      · have p1 : (L ++ (A0 ++ (datsOf vs (marks as 0 ss) ++ T))).Perm (A0 ++ (L ++ (datsOf vs (marks as 0 ss) ++ T))) := by
          rw [← List.append_assoc, ← List.append_assoc A0]
          exact List.perm_append_comm.append_right _
        refine p1.trans (List.Perm.append_left A0 ?_)
        rw [← List.append_assoc, ← List.append_assoc]
        exact List.perm_append_comm.append_right T
    show Post K (fun cls d _ H => E cls d H) as (L2.start N vs) H0 O0 (datsOf vs (marks as 0 ss) ++ T) { nx := fun _ H' => Q .non H', rt := Q } (m (ss.map some ++ List.replicate nl none))
    cases e : m (ss.map some ++ List.replicate nl none) with
    | bad => rw [e] at hq; exact False.elim hq
    | exn x δ' =>
      rw [e] at hq
      simp only [fnOut] at hq
      cases e2 : fins (marks as 0 ss) δ' with
      | none => simp only [e2] at hq
      | some fin =>
        simp only [e2] at hq
        exact fun cls d σ' H' ap a st => hq.2 cls d H' a (by simpa using key (A0 := []) ap (by simpa using st) e2)
    | ok fl δ' =>
      rw [e] at hq
      cases fl with
      | nx =>
        simp only [fnOut] at hq
        cases e2 : fins (marks as 0 ss) δ' with
        | none => simp only [e2] at hq
        | some fin =>
          simp only [e2] at hq
          exact fun σ' H' ap st => hq.2 .non H' (key (A0 := [(V.non, SV.dat .none)]) ap (st.res (Res.same .non)) e2)
      | bk => simp only [fnOut] at hq
      | ct => simp only [fnOut] at hq
      | rt r =>
        simp only [fnOut] at hq
        cases e2 : fins (marks as 0 ss) δ' with
        | none => simp only [e2] at hq
        | some fin =>
          simp only [e2] at hq
          exact fun v σ' H' ap st => hq.2 v H' (key (A0 := [(v, r)]) ap st e2)
  · rw [if_neg hc] at hq
    exact False.elim hq
/-- THE RULE for a def -/
theorem fnG_fnC {x qual : Str} {params : Arguments} {body : List Stmt} {scope : Scope} {f : Addr} {fd : FuncData} {N ps : List Str} {k np nl : Nat} {as : List Nat} {m : M Flw} (F : FunD K x qual params body scope [] [] f fd) (S : FnScope N ps scope) (hps : ps.length = np) (hN : N.length = np + nl)
    (hbody : ∀ (cdv : Value) (A : Around) (outer : List Env) (s : Shared) (H : Hp) (E : XK), CdO K f cdv → A.guards = some [] → Room k (A.deeper (PyProof.Rows.envOfC qual scope s.heap.objs.size f cdv)) → ∀ W : WX, Takes (Bx P w K mg base N qual scope f cdv A outer s H E) W →
      SSs (Bx P w K mg base N qual scope f cdv A outer s H E) W as body m) : FnG P w K mg base (k + 1) f fd ps (spF K np (fnOf np nl as m)) :=
  ⟨fun vs H Q E h => by rw [spF_len h, hps], fun A outer s H args us vs Q E hG hr e0 hb r h => fn_run F S hr e0 hb r (by rw [spF_len h, hps]) fun cdv hcd hr' =>
    fn_body hN (hbody cdv A outer s H E hcd hG hr' (fun cls d _ H => E cls d H) (takes_of rfl rfl rfl rfl)) h⟩
theorem fnG_fn {x qual : Str} {params : Arguments} {body : List Stmt} {scope : Scope} {f : Addr} {fd : FuncData} {N ps : List Str} {k np nl : Nat} {as : List Nat} {m : M Flw} (F : FunD K x qual params body scope [] [] f fd) (S : FnScope N ps scope) (hps : ps.length = np) (hN : N.length = np + nl)
    (hbody : ∀ (cdv : Value) (A : Around) (outer : List Env) (s : Shared) (H : Hp) (E : XK), A.guards = some [] → Room k (A.deeper (PyProof.Rows.envOfC qual scope s.heap.objs.size f cdv)) → ∀ W : WX, Takes (Bx P w K mg base N qual scope f cdv A outer s H E) W →
      SSs (Bx P w K mg base N qual scope f cdv A outer s H E) W as body m) : FnG P w K mg base (k + 1) f fd ps (spF K np (fnOf np nl as m)) :=
  fnG_fnC F S hps hN fun cdv A outer s H E _ hG hr W tk => hbody cdv A outer s H E hG hr W tk
theorem cal_fnC {x qual : Str} {params : Arguments} {body : List Stmt} {scope : Scope} {f : Addr} {fd : FuncData} {N ps : List Str} {k np nl : Nat} {as : List Nat} {m : M Flw} (F : FunD K x qual params body scope [] [] f fd) (S : FnScope N ps scope) (hps : ps.length = np) (hN : N.length = np + nl)
    (hmg : mg x = some (.ref f)) (hb : Binds K fd ps [])
    (hbody : ∀ (cdv : Value) (A : Around) (outer : List Env) (s : Shared) (H : Hp) (E : XK), CdO K f cdv → A.guards = some [] → Room k (A.deeper (PyProof.Rows.envOfC qual scope s.heap.objs.size f cdv)) → ∀ W : WX, Takes (Bx P w K mg base N qual scope f cdv A outer s H E) W →
      SSs (Bx P w K mg base N qual scope f cdv A outer s H E) W as body m) : CalF P w K mg base (k + 1) x np (fnOf np nl as m) :=
  ⟨⟨f, fd, ps, fnG_fnC F S hps hN hbody, hmg, F.kp, hb⟩, fnOf_ar np nl as m⟩
theorem cal_fn {x qual : Str} {params : Arguments} {body : List Stmt} {scope : Scope} {f : Addr} {fd : FuncData} {N ps : List Str} {k np nl : Nat} {as : List Nat} {m : M Flw} (F : FunD K x qual params body scope [] [] f fd) (S : FnScope N ps scope) (hps : ps.length = np) (hN : N.length = np + nl)
    (hmg : mg x = some (.ref f)) (hb : Binds K fd ps [])
    (hbody : ∀ (cdv : Value) (A : Around) (outer : List Env) (s : Shared) (H : Hp) (E : XK), A.guards = some [] → Room k (A.deeper (PyProof.Rows.envOfC qual scope s.heap.objs.size f cdv)) → ∀ W : WX, Takes (Bx P w K mg base N qual scope f cdv A outer s H E) W →
      SSs (Bx P w K mg base N qual scope f cdv A outer s H E) W as body m) : CalF P w K mg base (k + 1) x np (fnOf np nl as m) :=
  ⟨⟨f, fd, ps, fnG_fn F S hps hN hbody, hmg, F.kp, hb⟩, fnOf_ar np nl as m⟩
/-- a def of no value stays so, whatever its fuel -/
theorem CalF.mono {j k : Nat} {x : Str} {np : Nat} {F : FN} (c : CalF P w K mg base j x np F) (h : j ≤ k) : CalF P w K mg base k x np F := by
  obtain ⟨⟨f, fd, ps, ok, r⟩, ar⟩ := c
  exact ⟨⟨f, fd, ps, ⟨ok.size, fun A outer s H args us vs Q E hG hr => ok.go A outer s H args us vs Q E hG (hr.mono h)⟩, r⟩, ar⟩
end
end Ev

/-! D12: built-in functions by values. -/
namespace Ev
open PySem L2
variable [Tb]

def gLen : PyData → Option SV
  | .str z => if z.length ≤ sizeLine then some (.dat (.int z.length)) else none
  | .list ds => some (.dat (.int ds.length))
  | .tuple ds => some (.dat (.int ds.length))
  | _ => none
def gInt : PyData → Option SV
  | .int i => some (.dat (.int i))
  | .bool b => some (.dat (.int (if b then 1 else 0)))
  | _ => none
def gAbs : PyData → Option SV
  | .int i => some (.dat (.int (if i < 0 then -i else i)))
  | _ => none
def gMax : PyData → PyData → Option SV
  | .int i, .int j => some (.dat (.int (if j > i then j else i)))
  | _, _ => none
def gMin : PyData → PyData → Option SV
  | .int i, .int j => some (.dat (.int (if j < i then j else i)))
  | _, _ => none
def bools : List PyData → Option (List Bool)
  | [] => some []
  | .bool b :: ds => (bools ds).map (b :: ·)
  | _ => none
def txts : List PyData → Option (List Str)
  | [] => some []
  | .str b :: ds => (txts ds).map (b :: ·)
  | _ => none
def gAll : PyData → Option SV
  | .list ds => (bools ds).map fun bs => .dat (.bool (bs.all id))
  | _ => none
def gAny : PyData → Option SV
  | .list ds => (bools ds).map fun bs => .dat (.bool (bs.any id))
  | _ => none
def gListOf : PyData → Option SV
  | .list ds => some (.lst ds)
  | .tuple ds => some (.lst ds)
  | _ => none
def gTupOf : PyData → Option SV
  | .list ds => some (.dat (.tuple ds))
  | .tuple ds => some (.dat (.tuple ds))
  | _ => none

def BR (X : Cx) (f : Value) (F : List PyData → Option SV) : Prop := CallR X f (rN X.K F)
section
variable {X : Cx} {W : WX} {pos p : Pos}
theorem bools_vs {K : PySem.W.Frag} {H : Hp} : ∀ {ds : List PyData} {vs : List V} {bs : List Bool}, IsAll K H vs ds → bools ds = some bs → vs = bs.map V.bl
  | [], _, bs, .nil, h => by cases h; rfl
  | d :: ds, _, bs, .cons a t, h => by
    cases d with
    | bool b =>
      obtain ⟨bs', e, rfl⟩ := Option.map_eq_some_iff.mp (show (bools ds).map (b :: ·) = some bs from h)
      cases a
      rw [bools_vs t e]; rfl
    | _ => cases h
theorem txts_vs {K : PySem.W.Frag} {H : Hp} : ∀ {ds : List PyData} {vs : List V} {bs : List Str}, IsAll K H vs ds → txts ds = some bs → vs = bs.map V.str
  | [], _, bs, .nil, h => by cases h; rfl
  | d :: ds, _, bs, .cons a t, h => by
    cases d with
    | str b =>
      obtain ⟨bs', e, rfl⟩ := Option.map_eq_some_iff.mp (show (txts ds).map (b :: ·) = some bs from h)
      cases a
      rw [txts_vs t e]; rfl
    | _ => cases h
theorem Opn.sql {K : PySem.W.Frag} {H : Hp} {v : V} {ds : List PyData} (h : Opn K H v (.list ds)) : ∃ a vs, v = .ref a ∧ SqL K H a vs ∧ IsAll K H vs ds := by
  obtain ⟨a, vs, e, r, t⟩ := h.list
  exact ⟨a, vs, e, .inl r, t⟩
theorem br_len : BR X (.builtin "len") (g1 gLen) := by
  intro pins s σ H xs us Q I r h
  obtain ⟨ds, sv, po, e, q⟩ := h
  unfold g1 at e
  split at e
  · cases po with | cons a t => cases t; exact (by
      unfold gLen at e
      split at e
      · split at e
        · cases e
          cases a.str
          exact call_len_str pins s σ H _ us Q I r ⟨_, rfl, by assumption, q _ _ (Res.same (.int _))⟩
        · cases e
      · cases e
        obtain ⟨a1, vs, rfl, h1, t1⟩ := a.sql
        exact call_len_seq pins s σ H _ us Q I r ⟨_, _, rfl, .inl h1, q _ _ (by rw [t1.length]; exact Res.same (.int _))⟩
      · cases e
        obtain ⟨a1, vs, rfl, h1, t1⟩ := a.tuple
        exact call_len_seq pins s σ H _ us Q I r ⟨_, _, rfl, .inr h1, q _ _ (by rw [t1.length]; exact Res.same (.int _))⟩
      · cases e)
  · cases e
theorem br_int : BR X (.type "int") (g1 gInt) := by
  intro pins s σ H xs us Q I r h
  obtain ⟨ds, sv, po, e, q⟩ := h
  unfold g1 at e
  split at e
  · cases po with | cons a t => cases t; exact (by
      unfold gInt at e
      split at e
      · cases e
        cases a.int
        exact call_int1 pins s σ H _ us Q I r (.inl ⟨_, rfl, q _ _ (Res.same (.int _))⟩)
      · cases e
        cases a with
        | dat a => cases a; exact call_int1 pins s σ H _ us Q I r (.inr ⟨_, rfl, q _ _ (Res.same (.int _))⟩)
      · cases e)
  · cases e
theorem br_abs : BR X (.builtin "abs") (g1 gAbs) := by
  intro pins s σ H xs us Q I r h
  obtain ⟨ds, sv, po, e, q⟩ := h
  unfold g1 at e
  split at e
  · cases po with | cons a t => cases t; exact (by
      unfold gAbs at e
      split at e
      · cases e
        cases a.int
        exact call_abs pins s σ H _ us Q I r ⟨_, rfl, q _ _ (Res.same (.int _))⟩
      · cases e)
  · cases e
theorem br_max (hc : X.calm = true) : BR X (.builtin "max") (g2 gMax) := by
  intro pins s σ H xs us Q I r h
  obtain ⟨ds, sv, po, e, q⟩ := h
  unfold g2 at e
  split at e
  · cases po with | cons a t => cases t with | cons b t => cases t; exact (by
      unfold gMax at e
      split at e
      · cases e
        cases a.int; cases b.int
        exact call_max2 hc pins s σ H _ us Q I r ⟨_, _, rfl, q _ _ (Res.same (.int _))⟩
      · cases e)
  · cases e
theorem br_min (hc : X.calm = true) : BR X (.builtin "min") (g2 gMin) := by
  intro pins s σ H xs us Q I r h
  obtain ⟨ds, sv, po, e, q⟩ := h
  unfold g2 at e
  split at e
  · cases po with | cons a t => cases t with | cons b t => cases t; exact (by
      unfold gMin at e
      split at e
      · cases e
        cases a.int; cases b.int
        exact call_min2 hc pins s σ H _ us Q I r ⟨_, _, rfl, q _ _ (Res.same (.int _))⟩
      · cases e)
  · cases e
theorem br_all (hc : X.calm = true) : BR X (.builtin "all") (g1 gAll) := by
  intro pins s σ H xs us Q I r h
  obtain ⟨ds, sv, po, e, q⟩ := h
  unfold g1 at e
  split at e
  · cases po with | cons a t => cases t; exact (by
      unfold gAll at e
      split at e
      · obtain ⟨bs, e2, rfl⟩ := Option.map_eq_some_iff.mp e
        obtain ⟨a1, vs, rfl, h1, t1⟩ := a.sql
        rw [bools_vs t1 e2] at h1
        exact cr_all hc pins s σ H _ us Q I r ⟨_, _, rfl, h1, q _ _ (Res.same (.bl _))⟩
      · cases e)
  · cases e
theorem br_any (hc : X.calm = true) : BR X (.builtin "any") (g1 gAny) := by
  intro pins s σ H xs us Q I r h
  obtain ⟨ds, sv, po, e, q⟩ := h
  unfold g1 at e
  split at e
  · cases po with | cons a t => cases t; exact (by
      unfold gAny at e
      split at e
      · obtain ⟨bs, e2, rfl⟩ := Option.map_eq_some_iff.mp e
        obtain ⟨a1, vs, rfl, h1, t1⟩ := a.sql
        rw [bools_vs t1 e2] at h1
        exact cr_any hc pins s σ H _ us Q I r ⟨_, _, rfl, h1, q _ _ (Res.same (.bl _))⟩
      · cases e)
  · cases e
theorem br_list : BR X (.type "list") (g1 gListOf) := by
  intro pins s σ H xs us Q I r h
  obtain ⟨ds, sv, po, e, q⟩ := h
  unfold g1 at e
  split at e
  · cases po with | cons a t => cases t; exact (by
      unfold gListOf at e
      split at e
      · cases e
        obtain ⟨a1, vs, rfl, h1, t1⟩ := a.sql
        exact call_list_of pins s σ H _ us Q I r ⟨_, _, rfl, .inl h1, fun l hl => q _ _ (Res.lst hl t1)⟩
      · cases e
        obtain ⟨a1, vs, rfl, h1, t1⟩ := a.tuple
        exact call_list_of pins s σ H _ us Q I r ⟨_, _, rfl, .inr h1, fun l hl => q _ _ (Res.lst hl t1)⟩
      · cases e)
  · cases e
theorem br_tuple : BR X (.type "tuple") (g1 gTupOf) := by
  intro pins s σ H xs us Q I r h
  obtain ⟨ds, sv, po, e, q⟩ := h
  unfold g1 at e
  split at e
  · cases po with | cons a t => cases t; exact (by
      unfold gTupOf at e
      split at e
      · cases e
        obtain ⟨a1, vs, rfl, h1, t1⟩ := a.sql
        exact call_tuple_of pins s σ H _ us Q I r ⟨_, _, rfl, .inl ⟨h1, fun l hl => q _ _ (Res.tup hl t1)⟩⟩
      · cases e
        obtain ⟨a1, vs, rfl, h1, t1⟩ := a.tuple
        exact call_tuple_of pins s σ H _ us Q I r ⟨_, _, rfl, .inr ⟨h1, q _ _ (Res.same (.tup h1 t1))⟩⟩
      · cases e)
  · cases e
/-! ### their calls -/
theorem se_callB {x : Str} {id : String} {f : List PyData → Option SV} {e : Expr} {es : List Expr} {m : M (List Opd)} (hc : BR X (.builtin id) f) (hg : Gl X x) (hm : X.mg x = none) (hv : bootBuiltins x = some (.builtin id)) (hp : plainE e = true) (ha : SA X W (e :: es) m)
    (hn : x ≠ "__name__") (hdb : (x == ("__debug__" : Str)) = false) (hpl : (backTo pos (starEach es X.env)).any (·.1) = false) : SE X W (.Call (.Name x p) (e :: es) [] pos) (bnd m (opN f)) :=
  (pe_callB hc hg hm hv ha hn hdb (star_plain hp es X.env) hpl).imp fun _ _ _ h => eOp_t h
theorem se_callTy {x : Str} {T : String} {f : List PyData → Option SV} {e : Expr} {es : List Expr} {m : M (List Opd)} (hc : BR X (.type T) f) (hg : Gl X x) (hm : X.mg x = none) (hv : bootBuiltins x = some (.type T)) (hp : plainE e = true) (ha : SA X W (e :: es) m)
    (hn : x ≠ "__name__") (hdb : (x == ("__debug__" : Str)) = false) (hpl : (backTo pos (starEach es X.env)).any (·.1) = false) : SE X W (.Call (.Name x p) (e :: es) [] pos) (bnd m (opN f)) :=
  (pe_callTy hc hg hm hv ha hn hdb (star_plain hp es X.env) hpl).imp fun _ _ _ h => eOp_t h
end
end Ev

/-! D13: from the promise of the def `law` to the row; the tables of code objects are handed in empty. -/
namespace Ev
open PySem PySem.Spec L2
open PyProof.Rows hiding St

/-- the tables that are led: each is one of cs -/
structure TbOk [Tb] (cs : List (Addr × Addr)) : Prop where
  sub : ∀ q ∈ Tb.tt, ∃ p ∈ cs, q.1 = p.2
/-- what stands at the tables when the law is called -/
structure TbHd (mg : Str → Option Value) (K : PySem.W.Frag) (h : Heap) (cs : List (Addr × Addr)) : Prop where
  emp : ∀ p ∈ cs, h.get? p.2 = some { cls := .none, data := .fields #[] }
  out : ∀ p ∈ cs, K.lookup p.2 = none
  hd : ∀ p ∈ cs, PySem.W.CodeHd h p.1 p.2
  bm : ∃ (bm : Addr) (ob : Obj), mg "__builtins__" = some (.ref bm) ∧ bm ≠ builtinsNs ∧ h.get? bm = some ob ∧ ob.cls = .type "module" ∧ ob.dict = some builtinsNs ∧ ob.data = .plain
theorem hid_tab {mg : Str → Option Value} {K : PySem.W.Frag} {s : Shared} {cs : List (Addr × Addr)} {H : Hp} (t : TbHd mg K s.heap cs) (hns : s.heap.Ns mainGlobals mg)
    (keep : ∀ {b : Addr} {o : Obj}, s.heap.get? b = some o → (∀ vs n, o.data ≠ .seq vs n) → o.data ≠ .fields #[] → H b = none) : ∀ p ∈ cs, LamX.TabB (hidT s.heap H) mg p.1 p.2 := by
  intro p hp
  have ep := t.emp p hp
  have stay : ∀ {b : Addr} {o : Obj}, s.heap.get? b = some o → (∀ vs n, o.data ≠ .seq vs n) → o.data ≠ .fields #[] → (hidT s.heap H).get? b = some o := fun e a b => hidT_get e (keep e a b)
  obtain ⟨go, ges, gep, ge, gd, _⟩ := hns
  constructor
  · obtain ⟨o, us, file, tf, fl, tg, inF, tx, tt, e, r1, r2, r3, r⟩ := t.hd p hp
    refine ⟨o, us, file, tf, fl, tg, inF, tx, tt, stay e ?_ ?_, r1, r2, r3, r⟩
    · intro vs n z
      rw [r2] at z; cases z
    · intro z
      rw [r2] at z; cases z; cases r3
  · obtain ⟨bm, ob, b1, b2, b3, b4, b5, b6⟩ := t.bm
    refine ⟨bm, ob, b1, b2, ?_, ?_, stay b3 ?_ ?_, b4, b5, b6⟩
    · intro q
      rw [q, ge] at b3; cases b3; rw [gd] at b6; cases b6
    · intro q
      rw [q, ep] at b3; cases b3; cases b6
    · intro vs n z
      rw [b6] at z; cases z
    · intro z
      rw [b6] at z; cases z
  · intro q
    rw [q, ep] at ge; cases ge; cases gd
/-- the law's call, over an abstract heap that tracks at most the script and the tables -/
theorem go_over [Tb] {P : Program} {w : World} {K : PySem.W.Frag} {mg mb : Str → Option Value} {k : Nat} {fa a : Addr} {fd : FuncData} {x : Str} {F : FN} {s : Shared} {vs : List Value} {ns : List Int} {fv : SV} {cs : List (Addr × Addr)} (to : TbOk cs) (th : TbHd mg K s.heap cs) (KX : K.In s.heap) (hns : s.heap.Ns mainGlobals mg) (hb : s.heap.Ns builtinsNs mb)
    (hbb : ∀ x : Str, x ≠ "__name__" → mb x = bootBuiltins x) (hlim : s.heap.NoLimit) (hg : s.gens = #[]) (ha : s.heap.get? a = some { cls := .type "list", data := .seq vs.toArray }) (hr : Room k callerA)
    (G : ∀ base : Heap, K.In base → base.Ns mainGlobals mg → (∀ p ∈ cs, LamX.TabB base mg p.1 p.2) → FnG P w K mg base k fa fd [x] (spF K 1 F)) (hbind : ∀ (s : Shared) (u : Value), BindsTo s fd ⟨[u], []⟩ [(x, u)]) (hF : F [.scr ns] = .ret (.dat (.bool true)) [fv])
    (H : Hp) (only : ∀ b, H b = none ∨ (b ∈ cs.map (·.2) ∧ H b = some (.tbl #[])) ∨ (b = a ∧ ∃ o xs, H b = some (.frz o (.lst xs)))) (tabs : ∀ p ∈ cs, H p.2 = some (.tbl #[])) (hS : SqF K H a (ns.map V.int)) (hok : HOk P w H s.heap) (hK : H a ≠ none → K.lookup a = none) :
    codeAny (model P w) callerA (.call (.ref fa) ⟨[.ref a], []⟩) (fun r s' => r = .ok (.ret (.bool true)) ∧ OldK s.heap s'.heap ∧ s'.os = s.os ∧ AllBare s'.gens) s := by
  have isT : ∀ {b : Addr}, b ∈ cs.map (·.2) → s.heap.get? b = some { cls := .none, data := .fields #[] } := by
    intro b m
    obtain ⟨p, hp, rfl⟩ := List.mem_map.mp m
    exact th.emp p hp
  have keep : ∀ {b : Addr} {o : Obj}, s.heap.get? b = some o → (∀ vs n, o.data ≠ .seq vs n) → o.data ≠ .fields #[] → H b = none := by
    intro b o e n1 n2
    rcases only b with q | ⟨m, _⟩ | ⟨eb, _⟩
    · exact q
    · rw [isT m] at e; cases e; exact absurd rfl n2
    · rw [eb, ha] at e; cases e; exact absurd rfl (n1 _ _)
  have out : ∀ {b : Addr} {o : Obj}, s.heap.get? b = some o → H b = none → (hidT s.heap H).get? b = some o := fun e n => hidT_get e n
  have nsK : ∀ {b : Addr} {m : Str → Option Value}, s.heap.Ns b m → (hidT s.heap H).Ns b m := by
    rintro b m ⟨o, es, ep, e, d, r⟩
    exact ⟨o, es, ep, out e (keep e (fun vs n z => by rw [d] at z; cases z) fun z => by rw [d] at z; cases z), d, r⟩
  have inK : K.In (hidT s.heap H) := by
    intro b o e
    refine out (KX b o e) ?_
    rcases only b with q | ⟨m, _⟩ | ⟨eb, _, _, z⟩
    · exact q
    · obtain ⟨p, hp, rfl⟩ := List.mem_map.mp m
      rw [th.out p hp] at e; cases e
    · subst eb
      rw [hK (by rw [z]; exact fun q => by cases q)] at e; cases e
  obtain ⟨mc, c1, c2⟩ := hlim
  have e0 : Env0 P w K mg (hidT s.heap H) callerA [] s H :=
    { frames := rfl, mod := ⟨inK, nsK hns, ⟨mb, nsK hb, hbb⟩, ⟨mc, nsK c1, c2⟩⟩, bs := fun _ _ e => of_hidT e, bsz := Nat.le_of_eq (hidT_size _ _), funs := trivial, frf := (fun b hb => absurd hb (by simp [frs])), hok := hok, bare := .of_eq hg }
  have rel : Rel K H (cs.map (·.2)) H [(.ref a, .scr ns)] := by
    refine ⟨⟨[], by simpa using Ents.cons (Ent.scr hS) .nil, List.nodup_nil, fun a ha => by cases ha⟩, Kp.refl _ _, fun q hq => ?_, fun b ps z => ?_⟩
    · obtain ⟨p, hp, e⟩ := to.sub q hq
      rw [e]
      exact NdefX.TabN.nil (tabs p hp)
    · rcases only b with q | ⟨m, _⟩ | ⟨_, o, xs, q⟩
      · rw [q] at z; cases z
      · exact m
      · rw [q] at z; cases z
  have wish : spF K 1 F [.ref a] H (fun v _ => v = .bl true) fun _ _ _ => False := by
    refine ⟨H, cs.map (·.2), [], [.scr ns], rfl, rfl, rel, ?_⟩
    rw [hF]
    refine ⟨?_, fun v H' R => ?_⟩
    · rfl
    · obtain ⟨o, en⟩ := R.ent (e := (v, SV.dat (.bool true))) (by simp)
      cases en with | dat i => cases i; rfl
  refine codeAny_mono ((G _ inK (nsK hns) (hid_tab th hns keep)).go callerA [] s H ⟨[.ref a], []⟩ [.ref a] [.ref a] _ _ rfl hr e0 (hbind s (.ref a)) (.cons rfl .nil) wish) fun r s' h => ?_
  rcases r with x | fl
  · obtain ⟨_, _, _, _, _, _, _, _, _, _, _, _, h⟩ := h
    exact h.elim
  · rcases fl with _ | _ | _ | u
    · exact False.elim h
    · exact False.elim h
    · exact False.elim h
    · obtain ⟨v, H', os, bare, un, hok', rv, q⟩ := h
      subst q
      cases (show u = Value.bool true from rv)
      have same : ∀ b o, b ∉ cs.map (·.2) → s.heap.get? b = some o → s'.heap.get? b = some o := by
        intro b o nb e
        rcases only b with n | ⟨m, _⟩ | ⟨_, ob, xs, z⟩
        · exact un.keep b o e n (fun z => by cases z) (by simp)
        · exact absurd m nb
        · obtain ⟨e1, _⟩ := hok b _ z
          obtain ⟨e2, _⟩ := hok' b _ (un.frzs b ob _ z)
          rw [e] at e1
          cases e1
          exact e2
      have more : ∀ p ∈ cs, ∃ m : Array Value, s'.heap.get? p.2 = some { cls := .none, data := .fields m } := by
        intro p hp
        obtain ⟨m, z⟩ := un.tbls p.2 #[] (tabs p hp)
        exact ⟨_, hok' p.2 _ z⟩
      refine ⟨rfl, ⟨fun b o e => ?_, fun b o e => ?_⟩, os, bare⟩
      · by_cases m : b ∈ cs.map (·.2)
        · have e' := isT m
          obtain ⟨p, hp, rfl⟩ := List.mem_map.mp m
          rw [e] at e'; cases e'
          obtain ⟨m2, z⟩ := more p hp
          refine .inr (.inl ⟨((th.hd p hp).tab (th.emp p hp)).isCodeTable, rfl, #[], m2, rfl, ?_⟩)
          rw [Array.empty_append]; exact z
        · exact .inl (same b o m e)
      · by_cases m : b ∈ cs.map (·.2)
        · obtain ⟨p, hp, rfl⟩ := List.mem_map.mp m
          obtain ⟨m2, z⟩ := more p hp
          exact ⟨_, z⟩
        · exact ⟨o, same b o m e⟩
/-- THE END: the law is true of every script -/
theorem walk_ev {l : PySem.W.OpenLaw} {n k : Nat} {q : Program} {loose : List Str} {XP : (Str → Option Value) → Heap → Prop} {YP : World → Heap → Prop} {d : DefRec} {x : Str} {F : FN} (hn : l.most = some n) (hn2 : n ≤ sizeLine) (hdf : d.params.defaults = []) (hr : Room k callerA) (hF : ∀ ns : List Int, ns.length ≤ n → ∃ v, F [.scr ns] = .ret (.dat (.bool true)) [v])
    (hK : ∀ (w : World) (mg : Str → Option Value) (fa : Addr) (h : Heap), YP w h → h.Ns mainGlobals mg → mg d.name = some (.ref fa) → ∃ (K : PySem.W.Frag) (fd : FuncData) (cs : List (Addr × Addr)) (tb : Tb), K.In h ∧ (∀ p ∈ cs, h.get? p.2 = some { cls := .none, data := .fields #[] }) ∧ (∀ p ∈ cs, K.lookup p.2 = none) ∧ (∀ p ∈ cs, PySem.W.CodeHd h p.1 p.2) ∧ TbOk cs ∧ (∀ (s : Shared) (u : Value), BindsTo s fd ⟨[u], []⟩ [(x, u)]) ∧
      ∀ base : Heap, K.In base → base.Ns mainGlobals mg → (∀ p ∈ cs, LamX.TabB base mg p.1 p.2) → FnG l.prog w K mg base k fa fd [x] (spF K 1 F)) : PySem.W.WalkO q loose XP YP l.row.toRowW d [] (fun f vs => PySem.call f vs) := by
  refine Att.attach_call hn hdf fun w s₀ s₁ mg mb fa o pm cd doc a vs ns G Y ho hd hcd hmg ha hi hl hg => ?_
  obtain ⟨K, fd, cs, tb, KX, t1, t2, t3, to, hb, hG⟩ := hK w mg fa _ Y G.T.g hmg
  have th : TbHd mg K s₁.heap cs := ⟨t1, t2, t3, G.T.bmain⟩
  obtain ⟨fin, e⟩ := hF ns hl
  have rv := vals_ints hi
  have z : ns.length ≤ sizeLine := Nat.le_trans hl hn2
  have go := go_over to th KX G.T.g G.T.b G.T.builtins G.T.nolimit hg ha hr hG hb e
  have aT : a ∉ cs.map (·.2) := by
    intro m
    obtain ⟨p, hp, ep⟩ := List.mem_map.mp m
    have e := t1 p hp
    rw [ep, ha] at e; cases e
  have inT : ∀ p ∈ cs, p.2 ∈ cs.map (·.2) := fun p hp => List.mem_map_of_mem hp
  have neA : ∀ p ∈ cs, p.2 ≠ a := fun p hp q => aT (q ▸ inT p hp)
  have okT : ∀ b, b ∈ cs.map (·.2) → s₁.heap.get? b = some { cls := .none, data := .fields #[] } := by
    intro b m
    obtain ⟨p, hp, ep⟩ := List.mem_map.mp m
    rw [← ep]; exact t1 p hp
  cases hk : K.lookup a with
  | some o =>
    have e := KX a o hk
    rw [ha] at e
    cases e
    refine go (fun b => if b ∈ cs.map (·.2) then some (.tbl #[]) else none) (fun b => ?_) (fun p hp => if_pos (inT p hp)) (.inr ⟨_, vs.toArray, _, hk, rfl, rfl, rfl, by rw [List.size_toArray, hi.length]; exact z, by simpa using rv⟩) (fun b u q => ?_) fun q => absurd (if_neg aT) q
    · by_cases m : b ∈ cs.map (·.2)
      · exact .inr (.inl ⟨m, if_pos m⟩)
      · exact .inl (if_neg m)
    · by_cases m : b ∈ cs.map (·.2)
      · have q := (if_pos m).symm.trans q
        cases q
        exact okT b m
      · cases (if_neg m).symm.trans q
  | none =>
    refine go (fun b => if b = a then some (.frz { cls := .type "list", data := .seq vs.toArray } (.lst (ns.map V.int))) else if b ∈ cs.map (·.2) then some (.tbl #[]) else none) (fun b => ?_) (fun p hp => (if_neg (neA p hp)).trans (if_pos (inT p hp))) (.inl ⟨{ cls := .type "list", data := .seq vs.toArray }, by simp⟩) (fun b u q => ?_) fun _ => hk
    · by_cases hb : b = a
      · exact .inr (.inr ⟨hb, _, _, if_pos hb⟩)
      · by_cases m : b ∈ cs.map (·.2)
        · exact .inr (.inl ⟨m, (if_neg hb).trans (if_pos m)⟩)
        · exact .inl ((if_neg hb).trans (if_neg m))
    · by_cases hb : b = a
      · subst hb
        have q := (if_pos rfl).symm.trans q
        cases q
        exact ⟨ha, by rw [List.length_map]; exact z, vs, _, rv, ha⟩
      · have q := (if_neg hb).symm.trans q
        by_cases m : b ∈ cs.map (·.2)
        · have q := (if_pos m).symm.trans q
          cases q
          exact okT b m
        · cases (if_neg m).symm.trans q
end Ev

/-! D14: the drawing's state: what reads and writes it; the script. -/
namespace Ev
open PySem PySem.Spec L2
open PyProof.Rows hiding St
variable [Tb]

def Src.get (S : Src) (f : Str) : Option Int := if f = "left" then some S.left else if f = "mixed" then some S.mixed else if f = "turn" then some S.turn else none
def Src.put (S : Src) (f : Str) (n : Int) : Option Src := if f = "left" then some { S with left := n } else if f = "mixed" then some { S with mixed := n } else if f = "turn" then some { S with turn := n } else none
def srcAt (δ : DS) (i : Nat) : Option Src := match at? δ i with
  | some (.src S) => some S
  | _ => none
def eSrcGet (f : Str) (i : Nat) : M Opd := fun δ => match (srcAt δ i).bind (·.get f) with
  | some n => .ok (.val (.dat (.int n))) δ
  | none => .bad
def eSrcLen (i : Nat) : M Opd := fun δ => match srcAt δ i with
  | some S => .ok (.val (.dat (.int S.cells.length))) δ
  | none => .bad
def eSrcPop (i : Nat) : M Opd := fun δ => match srcAt δ i with
  | some S => match S.cells[S.cells.length - 1]? with
    | some n => .ok (.val (.dat (.int n))) (δ.set i (some (.src { S with cells := S.cells.dropLast })))
    | none => .bad
  | none => .bad
def sSrcSet (f : Str) (i : Nat) (m : M Opd) : M Flw := bnd m fun o δ => match o with
  | .val (.dat (.int n)) => match (srcAt δ i).bind (·.put f n) with
    | some S => .ok .nx (δ.set i (some (.src S)))
    | none => .bad
  | _ => .bad
section
variable {K : PySem.W.Frag} {H0 H H' : Hp} {O0 : List Addr} {σ : St} {δ δ' : DS} {T T' : List (V × SV)} {v : V} {s : SV} {d : PyData}
def kvsS (S : Src) (c : Addr) : List (Key × V) := [(.inr "cells", .ref c), (.inr "left", .int S.left), (.inr "mixed", .int S.mixed), (.inr "turn", .int S.turn)]
theorem srcAt_eq {i : Nat} {S : Src} (h : srcAt δ i = some S) : at? δ i = some (.src S) := by
  unfold srcAt at h
  split at h
  · cases h; assumption
  · cases h
theorem Ste.srcAt {i : Nat} {S : Src} (st : Ste K H0 O0 σ H δ T) (h : srcAt δ i = some S) : ∃ a c, σ[i]? = some (some (.ref a)) ∧ H a = some (.dK (kvsS S c)) ∧ H c = some (.lst (S.cells.map V.int)) := by
  obtain ⟨v, e, o, en⟩ := st.slot (srcAt_eq h)
  cases en with
  | src h1 h2 => exact ⟨_, _, e, h1, h2⟩
theorem sk : (("left" : Str) ≠ "cells") ∧ (("mixed" : Str) ≠ "cells") ∧ (("turn" : Str) ≠ "cells") ∧ (("mixed" : Str) ≠ "left") ∧ (("turn" : Str) ≠ "left") ∧ (("turn" : Str) ≠ "mixed") := by decide +kernel
theorem valV_get {S : Src} {c : Addr} {f : Str} {n : Int} (h : S.get f = some n) : valV (kvsS S c) (.inr f : Key) = some (.int n) := by
  obtain ⟨k1, k2, k3, k4, k5, k6⟩ := sk
  unfold Src.get at h
  split at h
  · rename_i e; subst e; cases h
    simp [kvsS, valV, k1, k1.symm]
  · split at h
    · rename_i e; subst e; cases h
      simp [kvsS, valV, k1, k1.symm, k2, k2.symm, k4, k4.symm]
    · split at h
      · rename_i e; subst e; cases h
        simp [kvsS, valV, k1, k1.symm, k2, k2.symm, k3, k3.symm, k4, k4.symm, k5, k5.symm, k6, k6.symm]
      · cases h
theorem putK_put {S S' : Src} {c : Addr} {f : Str} {n : Int} (h : S.put f n = some S') : putK (kvsS S c) (.inr f : Key) (.int n) = kvsS S' c ∧ S'.cells = S.cells := by
  obtain ⟨k1, k2, k3, k4, k5, k6⟩ := sk
  unfold Src.put at h
  split at h
  · rename_i e; subst e; cases h
    refine ⟨?_, rfl⟩
    simp [kvsS, putK, k1, k1.symm, k2, k2.symm, k3, k3.symm, k4, k4.symm, k5, k5.symm, k6, k6.symm]
  · split at h
    · rename_i e; subst e; cases h
      refine ⟨?_, rfl⟩
      simp [kvsS, putK, k1, k1.symm, k2, k2.symm, k3, k3.symm, k4, k4.symm, k5, k5.symm, k6, k6.symm]
    · split at h
      · rename_i e; subst e; cases h
        refine ⟨?_, rfl⟩
        simp [kvsS, putK, k1, k1.symm, k2, k2.symm, k3, k3.symm, k4, k4.symm, k5, k5.symm, k6, k6.symm]
      · cases h
/-- a thing in a slot is exchanged -/
theorem Ste.swapSlot {i : Nat} {s s' : SV} {v : V} {H' : Hp} (st : Ste K H0 O0 σ H δ T) (e : at? δ i = some s) (ev : σ[i]? = some (some v)) (k : ∀ oc, Ent K H (v, s) oc → oc.Nodup → ∃ on, Ent K H' (v, s') on ∧ on.Nodup ∧ (∀ a ∈ on, a ∈ oc ∨ H a = none) ∧ Kp oc H H') :
    Ste K H0 O0 σ H' (δ.set i (some s')) T := by
  obtain ⟨L, z, R⟩ := st
  obtain ⟨v', L1, L2, rfl, e2, f, _⟩ := z.get e
  have q : v' = v := by rw [ev] at e2; cases e2; rfl
  subst q
  refine ⟨_, f s', ?_⟩
  have p : ∀ x : V × SV, (L1 ++ x :: L2 ++ T).Perm ([x] ++ (L1 ++ L2 ++ T)) := fun x => by
    rw [List.append_assoc, List.append_assoc]
    exact List.perm_middle
  refine (Rel.step (R.perm (p _)) (Ln := [(v', s')]) fun oc hc nd => ?_).perm (p _).symm
  cases hc with
  | cons c n =>
    cases n
    rw [List.append_nil] at nd ⊢
    obtain ⟨on, h1, h2, h3, h4⟩ := k _ c nd
    exact ⟨on, by simpa using Ents.cons h1 .nil, h2, h3, h4⟩
theorem Ste.srcPut {i : Nat} {S S' : Src} {a c : Addr} (st : Ste K H0 O0 σ H δ T) (h : Ev.srcAt δ i = some S) (e : σ[i]? = some (some (.ref a))) (ha : H a = some (.dK (kvsS S c))) (hc : H c = some (.lst (S.cells.map V.int))) (hs : S'.cells = S.cells) :
    Ste K H0 O0 σ (upd H a (.dK (kvsS S' c))) (δ.set i (some (.src S'))) T := st.swapSlot (srcAt_eq h) e fun oc en nd => by
  cases en with
  | @src _ c' _ h1 h2 =>
    have q : c' = c := by rw [ha] at h1; cases h1; rfl
    subst q
    have ne : c' ≠ a := by rintro rfl; rw [ha] at hc; cases hc
    refine ⟨[a, c'], .src upd_same (by rw [upd_ne ne, hs]; exact hc), nd, fun b hb => .inl hb, Kp.at (by simp)⟩
theorem Ste.srcCut {i : Nat} {S : Src} {a c : Addr} {cs : List Int} (st : Ste K H0 O0 σ H δ T) (h : Ev.srcAt δ i = some S) (e : σ[i]? = some (some (.ref a))) (ha : H a = some (.dK (kvsS S c))) (hc : H c = some (.lst (S.cells.map V.int))) :
    Ste K H0 O0 σ (upd H c (.lst (cs.map V.int))) (δ.set i (some (.src { S with cells := cs }))) T := st.swapSlot (srcAt_eq h) e fun oc en nd => by
  cases en with
  | @src _ c' _ h1 h2 =>
    have q : c' = c := by rw [ha] at h1; cases h1; rfl
    subst q
    have ne : a ≠ c' := by rintro rfl; rw [ha] at hc; cases hc
    refine ⟨[a, c'], .src (by rw [upd_ne ne]; exact ha) upd_same, nd, fun b hb => .inl hb, Kp.at (by simp)⟩
end
section
variable {X : Cx} {W : WX} {as : List Nat} {pos p p2 p3 p4 apos cpos : Pos}
theorem Vis.n {X : Cx} (hu : X.A.units + 64 < cLine) : X.A.units + 1 < cLine := by omega
theorem noSl_str {x : Str} {k : Nat} {p : Pos} : NoSl (.Constant (.str x) k p) := fun _ _ => rfl
theorem se_srcGet {i : Nat} {x f : Str} {k : Nat} (hu : X.A.units + 64 < cLine) (hN : X.N[i]? = some x) (hv : Vis X.env.scope x) (hd : (x == ("__debug__" : Str)) = false) (hcd : (x == ("__classdict__" : Str)) = false) : SE X W (.Subscript (.Name x p) (.Constant (.str f) k p2) pos) (eSrcGet f i) :=
  (pe_dget (Vis.n hu) (pe_var hN hv hd hcd) pe_str noSl_str).imp fun σ H Q h => by
    obtain ⟨H0, O0, T, δ, st, hm⟩ := h
    unfold eSrcGet at hm
    cases e : (srcAt δ i).bind (·.get f) with
    | none => simp only [e] at hm
    | some n =>
      simp only [e] at hm
      obtain ⟨S, e1, e2⟩ := Option.bind_eq_some_iff.mp e
      obtain ⟨a, c, ev, ha, hc⟩ := st.srcAt e1
      exact ⟨_, ev, a, _, rfl, .inl ⟨_, .inr f, .inl ha, rfl, (valV_get e2).symm⟩, hm _ H True.intro (st.res (Res.same (.int n)))⟩
theorem valV_cells {S : Src} {c : Addr} : valV (kvsS S c) (.inr "cells" : Key) = some (.ref c) := by simp [kvsS, valV]
theorem se_srcLen {i : Nat} {x l : Str} {k : Nat} (hu : X.A.units + 64 < cLine) (hN : X.N[i]? = some x) (hv : Vis X.env.scope x) (hd : (x == ("__debug__" : Str)) = false) (hcd : (x == ("__classdict__" : Str)) = false) (hl : l = "len") (hg : Gl X l) (hm : X.mg l = none) :
    SE X W (.Call (.Name l p4) [.Subscript (.Name x p) (.Constant (.str "cells") k p2) p3] [] pos) (eSrcLen i) := by
  subst hl
  refine (pe_callB call_len_seq hg hm boot_len (pa_cons (pe_dget (Vis.n hu) (pe_var hN hv hd hcd) pe_str noSl_str) pa_nil)).imp fun σ H Q h => ?_
  obtain ⟨H0, O0, T, δ, st, hm⟩ := h
  unfold eSrcLen at hm
  cases e : srcAt δ i with
  | none => simp only [e] at hm
  | some S =>
    simp only [e] at hm
    obtain ⟨a, c, ev, ha, hc⟩ := st.srcAt e
    refine ⟨_, ev, a, _, rfl, .inl ⟨_, .inr "cells", .inl ha, rfl, valV_cells.symm⟩, c, S.cells.map V.int, rfl, .inl (.inl (.inl hc)), ?_⟩
    rw [List.length_map]
    exact hm _ H True.intro (st.res (Res.same (.int _)))
theorem se_srcPop {i : Nat} {x : Str} {k : Nat} (hu : X.A.units + 64 < cLine) (hN : X.N[i]? = some x) (hv : Vis X.env.scope x) (hd : (x == ("__debug__" : Str)) = false) (hcd : (x == ("__classdict__" : Str)) = false)
    (hbase : attributeBase (.Subscript (.Name x p) (.Constant (.str "cells") k p2) p3) "pop" X.env (eval (.Subscript (.Name x p) (.Constant (.str "cells") k p2) p3) X.env) = eval (.Subscript (.Name x p) (.Constant (.str "cells") k p2) p3) X.env) (hline : (apos.endLine == cpos.line) = true) :
    SE X W (.Call (.Attribute (.Subscript (.Name x p) (.Constant (.str "cells") k p2) p3) "pop" apos) [] [] cpos) (eSrcPop i) :=
  (pe_bm0 PySem.F.plainAttrs_list PySem.F.slot_list_pop PySem.F.type_list_pop mt_pop (pe_dget (Vis.n hu) (pe_var hN hv hd hcd) pe_str noSl_str) hbase hline).imp fun σ H Q h => by
    obtain ⟨H0, O0, T, δ, st, hm⟩ := h
    unfold eSrcPop at hm
    cases e : srcAt δ i with
    | none => simp only [e] at hm
    | some S =>
      simp only [e] at hm
      cases e2 : S.cells[S.cells.length - 1]? with
      | none => simp only [e2] at hm
      | some n =>
        simp only [e2] at hm
        obtain ⟨a, c, ev, ha, hc⟩ := st.srcAt e
        refine ⟨_, ev, a, _, rfl, .inl ⟨_, .inr "cells", .inl ha, rfl, valV_cells.symm⟩, .inl ⟨rfl, _, .inl (.inl hc)⟩, c, S.cells.map V.int, .int n, rfl, rfl, hc, ?_, ?_⟩
        · rw [List.length_map, List.getElem?_map, e2]; rfl
        · rw [← List.map_dropLast]
          exact hm _ _ True.intro ((st.srcCut e ev ha hc).res (Res.same (.int n)))
theorem ss_srcSet {i : Nat} {x f : Str} {k : Nat} {e : Expr} {m : M Opd} (hu : X.A.units + 64 < cLine) (hN : X.N[i]? = some x) (hv : Vis X.env.scope x) (hd : (x == ("__debug__" : Str)) = false) (hcd : (x == ("__classdict__" : Str)) = false) (he : SE X W e m)
    (hs : swapsWith e (some (.Subscript (.Name x p) (.Constant (.str f) k p2) p3)) pos.line X.env = pure false) : SS X W as (.Assign [.Subscript (.Name x p) (.Constant (.str f) k p2) p3] e pos) (sSrcSet f i m) :=
  (ps_dput (Vis.n hu) (pe_var hN hv hd hcd) pe_str he hs).imp fun D σ H h => by
    obtain ⟨σ0, H0, O0, T, δ, ap, st, hm⟩ := h
    refine ⟨H0, O0, T, δ, st, ?_⟩
    unfold sSrcSet bnd at hm
    cases e1 : m δ with
    | bad => simp only [e1] at hm; exact hm
    | exn y δ1 => simp only [e1] at hm; exact fun cls d H' a b => hm cls d σ H' ap a b
    | ok o δ1 =>
      simp only [e1] at hm
      intro v H1 ov st1
      cases o with
      | slot j => exact False.elim hm
      | val s =>
        cases s with
        | dat d =>
          cases d with
          | int n =>
            simp only at hm
            cases e2 : (srcAt δ1 i).bind (·.put f n) with
            | none => simp only [e2] at hm; exact False.elim hm
            | some S' =>
              simp only [e2] at hm
              obtain ⟨S, e3, e4⟩ := Option.bind_eq_some_iff.mp e2
              obtain ⟨a, c, ev, ha, hc⟩ := st1.srcAt e3
              obtain ⟨p1, p2⟩ := putK_put (c := c) e4
              obtain ⟨oo, en⟩ := st1.ent (e := (v, SV.dat (.int n))) (by simp [tmp])
              cases en with
              | dat i =>
                cases i
                refine ⟨_, ev, a, _, rfl, .inl ⟨_, .inr f, ha, rfl, by show 4 < sizeLine; rw [sizeLine_eq]; omega, rfl⟩, ?_⟩
                rw [p1]
                exact hm σ _ ap (Ste.drop1 (st1.srcPut e3 ev ha hc p2))
          | _ => exact False.elim hm
        | _ => exact False.elim hm
end
end Ev

/-! D15: types asked for, ranges, the script walked, comprehensions, augmented assignments, rows of names, methods. -/
namespace Ev
open PySem PySem.Spec L2
open PyProof.Rows hiding St
variable [Tb]

/-! ### isinstance -/
def tyN : PyData → String
  | .none => "NoneType"
  | .bool _ => "bool"
  | .int _ => "int"
  | .str _ => "str"
  | .list _ => "list"
  | .tuple _ => "tuple"
  | .dict _ => "dict"
def isT (T : String) (d : PyData) : Bool := tyN d == T || (T == "int" && tyN d == "bool")
def tys : List String := ["NoneType", "bool", "int", "str", "list", "tuple", "dict"]
theorem kitB_tys : ∀ a ∈ tys, ∀ b ∈ ["bool", "int", "str", "list", "tuple", "dict"], kitB a b = some (a == b || (b == "int" && a == "bool")) := by decide +kernel
theorem tyN_mem (d : PyData) : tyN d ∈ tys := by cases d <;> simp [tyN, tys]
theorem isT_kit {d : PyData} {T : String} (h : T ∈ ["bool", "int", "str", "list", "tuple", "dict"]) : kitB (tyN d) T = some (isT T d) := kitB_tys _ (tyN_mem d) _ h
def nX : PyData → Bool
  | .dict kvs => noX kvs
  | _ => true
def gIsi (T : String) (d : PyData) : Option SV := if nX d = true then some (.dat (.bool (isT T d))) else none
section
variable {K : PySem.W.Frag} {H : Hp} {v : V} {d : PyData}
theorem sqt_ty {a : Addr} {xs : List V} (h : SqT K H a xs) : TyX K H (.ref a) (.type "tuple") := by
  rcases h with (h | ⟨o, h⟩) | ⟨o, its, n, h1, h2, _⟩
  · exact .base (.tup h)
  · exact .fTuple h
  · exact .kTuple h1 h2
end
/-- isinstance(x, T) by data -/
def rTyD (K : PySem.W.Frag) (T : String) : List V → Hp → VK → Prop := fun xs H Q => ∃ x d, xs = [x, .ty T] ∧ Opn K H x d ∧ nX d = true ∧ Q (.bl (isT T d)) H
section
variable {X : Cx} {W : WX} {as : List Nat} {pos p p2 p3 p4 apos cpos : Pos}
theorem pe_tyN {x : Str} {T : String} (hg : Gl X x) (hm : X.mg x = none) (hv : bootBuiltins x = some (.type T)) (hn : x ≠ "__name__") (hdb : (x == ("__debug__" : Str)) = false) : PE X (.Name x p) (tC (.ty T)) :=
  ⟨fun pins s σ H Q I h => ld_blt I hg hm hv ⟨.ty T, H, I, rfl, h⟩ hn hdb⟩
theorem call_tyD {T : String} (hT : T ∈ ["bool", "int", "str", "list", "tuple", "dict"]) : CallR X (.builtin "isinstance") (rTyD X.K T) := by
  intro pins s σ H xs us Q I r h
  obtain ⟨x, d, rfl, a, hnx, q⟩ := h
  have via : TyX X.K H x (.type (tyN d)) → wpAny (model X.prog X.w) X.A (call (.builtin "isinstance") us) (EP X pins σ Q) X.xe s := fun ty =>
    call_isi pins s σ H _ us Q I r ⟨x, .ty T, .type (tyN d), .type T, isT T d, rfl, .ty T, ty, kit_ty (isT_kit hT), q⟩
  cases a with
  | dat h =>
    cases h with
    | non => exact via (.base .non)
    | bl b => exact via (.base (.bl b))
    | int i => exact via (.base (.int i))
    | str x => exact via (.base (.str x))
    | tup h _ => exact via (sqt_ty h)
    | lst h _ =>
      cases r with
      | cons r1 r2 =>
        cases r2 with
        | cons r2 r3 =>
          cases r3
          cases r2
          obtain ⟨ob, h⟩ := h
          cases r1
          obtain ⟨h0, _, its, n, _, h1⟩ := (show ObjOk X.prog X.w H s.heap _ (.frz ob (.lst _)) from I.hok _ _ h)
          exact PySem.W.kia_one PySem.W.kitx_list I.kIn ⟨_, h1, rfl⟩ (kit_ty (isT_kit (d := .list []) hT)) (fun z => nomatch z) fun tk => ⟨.bl (isT T (.list [])), H, I.tok tk, rfl, q⟩
    | dic h _ => exact via (.fDict h)
    | exn _ _ => cases hnx
    | exf _ _ _ _ => cases hnx
  | lst h _ => exact via (.base (.lst h))
  | dic h _ => exact via (.base (.dK h))
theorem se_isi {x t : Str} {T : String} {e : Expr} {m : M Opd} (hg : Gl X x) (hm : X.mg x = none) (hv : bootBuiltins x = some (.builtin "isinstance")) (hn : x ≠ "__name__") (hdb : (x == ("__debug__" : Str)) = false) (hp : plainE e = true) (he : SE X W e m)
    (hg' : Gl X t) (hm' : X.mg t = none) (hv' : bootBuiltins t = some (.type T)) (hn' : t ≠ "__name__") (hdb' : (t == ("__debug__" : Str)) = false) (hT : T ∈ ["bool", "int", "str", "list", "tuple", "dict"]) :
    SE X W (.Call (.Name x p) [e, .Name t p2] [] pos) (eOp (g1 (gIsi T)) [m]) :=
  (pe_callB (call_tyD hT) hg hm hv (pa_cons he (pa_cons (pe_tyN hg' hm' hv' hn' hdb') pa_nil) (star_plain hp _ _)) hn hdb (star_plain hp _ _) (by rfl)).imp fun σ H Q h => tE_mono (one_t h) fun y H1 q => by
    obtain ⟨ds, sv, po, e, q⟩ := q
    obtain ⟨d, rfl, a⟩ := one_opn po
    have e : (if nX d = true then some (SV.dat (.bool (isT T d))) else none) = some sv := e
    by_cases hn : nX d = true
    · rw [if_pos hn] at e
      cases e
      exact ⟨y, d, rfl, a, hn, q _ _ (Res.same (.bl _))⟩
    · rw [if_neg hn] at e; cases e
/-! ### what is walked -/
def rng (lo hi : Int) : List PyData := (List.range (hi - lo).toNat).map fun i => .int (lo + (i : Nat))
def itRng1 (m : M Opd) : M (List PyData) := bnd m fun o δ => match o.data δ with
  | some (.int j) => if -(2 ^ 62) ≤ j ∧ j < 2 ^ 62 then .ok (rng 0 j) δ else .bad
  | _ => .bad
def itRng2 (m m' : M Opd) : M (List PyData) := bnd m fun o => bnd m' fun o' δ => match o.data δ, o'.data δ with
  | some (.int i), some (.int j) => if -(2 ^ 62) ≤ i ∧ i < 2 ^ 62 ∧ -(2 ^ 62) ≤ j ∧ j < 2 ^ 62 then .ok (rng i j) δ else .bad
  | _, _ => .bad
theorem opd_int {K : PySem.W.Frag} {H0 H : Hp} {O0 : List Addr} {σ : St} {δ : DS} {T : List (V × SV)} {v : V} {o : Opd} {d : PyData} (ov : OpdV σ v o) (st : Ste K H0 O0 σ H δ (tmp v o ++ T)) (h : o.data δ = some d) : Opn K H v d := by
  have := datas_opn (os := [o]) (vs := [v]) (T := T) (ds := [d]) (.cons ov .nil) (by simpa [tmps] using st) (by simp [datas, h])
  cases this with | cons a _ => exact a
theorem si_range1 {tg e : Expr} {x : Str} {m : M Opd} (hx : x = "range") (hp : plainE e = true) (hg : Gl X x) (hm : X.mg x = none) (he : SE X W e m) : SI X W tg (.Call (.Name x p) [e] [] pos) (itRng1 m) := by
  subst hx
  refine (pi_range1 hg hm (pa_cons he pa_nil (star_plain hp _ _)) (star_plain hp _ _)).imp fun σ H R h => ?_
  obtain ⟨H0, O0, T, δ, st, hm⟩ := h
  refine ⟨H0, O0, T, δ, st, ?_⟩
  unfold itRng1 bnd at hm
  cases e1 : m δ with
  | bad => simp only [e1] at hm
  | exn x δ1 => simp only [e1] at hm; exact hm
  | ok o δ1 =>
    simp only [e1] at hm
    intro v H1 ov st1
    cases e2 : o.data δ1 with
    | none => simp only [e2] at hm
    | some d =>
      simp only [e2] at hm
      cases d with
      | int j =>
        simp only at hm
        by_cases c : -(2 ^ 62) ≤ j ∧ j < 2 ^ 62
        · simp only [if_pos c] at hm
          cases (opd_int ov st1 e2).int
          exact ⟨j, rfl, c.1, c.2, hm _ H1 [] st1.drop (by have := itr_range (K := X.K) (lo := 0) (n := j.toNat); simpa [rng] using this)⟩
        · simp only [if_neg c] at hm
      | _ => exact hm.elim
theorem si_range2 {tg e e' : Expr} {x : Str} {m m' : M Opd} (hx : x = "range") (hp : plainE e = true) (hp' : plainE e' = true) (hg : Gl X x) (hm : X.mg x = none) (he : SE X W e m) (he' : SE X W e' m') : SI X W tg (.Call (.Name x p) [e, e'] [] pos) (itRng2 m m') := by
  subst hx
  refine (pi_range2 hg hm (pa_cons he (pa_cons he' pa_nil (star_plain hp' _ _)) (star_plain hp _ _)) (by rw [star_plain hp, star_plain hp']; rfl) (by rw [star_plain hp']; rfl)).imp fun σ H R h => ?_
  obtain ⟨H0, O0, T, δ, st, hm⟩ := h
  refine ⟨H0, O0, T, δ, st, ?_⟩
  unfold itRng2 bnd at hm
  cases e1 : m δ with
  | bad => simp only [e1] at hm
  | exn x δ1 => simp only [e1] at hm; exact hm
  | ok o δ1 =>
    simp only [e1] at hm
    intro v H1 ov st1
    refine ⟨H0, O0, tmp v o ++ T, δ1, st1, ?_⟩
    cases e2 : m' δ1 with
    | bad => simp only [e2] at hm
    | exn x δ2 => simp only [e2] at hm; exact fun cls d H' a b => hm cls d H' a b.drop
    | ok o' δ2 =>
      simp only [e2] at hm
      intro v' H2 ov' st2
      cases e3 : o.data δ2 with
      | none => simp only [e3] at hm
      | some d =>
        cases e4 : o'.data δ2 with
        | none => simp only [e3, e4] at hm
        | some d' =>
          simp only [e3, e4] at hm
          have st3 : Ste X.K H0 O0 σ H2 δ2 (tmp v o ++ (tmp v' o' ++ T)) := st2.perm (by
            rw [← List.append_assoc, ← List.append_assoc]; exact List.perm_append_comm.append_right T)
          have a := opd_int ov st3 e3
          have b := opd_int ov' st2 e4
          cases d with
          | int i =>
            cases d' with
            | int j =>
              simp only at hm
              by_cases c : -(2 ^ 62) ≤ i ∧ i < 2 ^ 62 ∧ -(2 ^ 62) ≤ j ∧ j < 2 ^ 62
              · simp only [if_pos c] at hm
                cases a.int
                cases b.int
                exact ⟨i, j, rfl, c, hm _ H2 [] st2.drop.drop itr_range⟩
              · simp only [if_neg c] at hm
            | _ => exact hm.elim
          | _ => exact hm.elim
def itScr (i : Nat) : M (List PyData) := fun δ => match at? δ i with
  | some (.scr ns) => .ok (ns.map .int) δ
  | _ => .bad
theorem si_scr {i : Nat} {tg : Expr} {x : Str} (hN : X.N[i]? = some x) (hv : Vis X.env.scope x) (hd : (x == ("__debug__" : Str)) = false) (hcd : (x == ("__classdict__" : Str)) = false) : SI X W tg (.Name x p) (itScr i) :=
  (pi_list (pe_var hN hv hd hcd)).imp fun σ H R h => by
    obtain ⟨H0, O0, T, δ, st, hm⟩ := h
    cases e : at? δ i with
    | none => unfold itScr at hm; simp only [e] at hm
    | some sv =>
      unfold itScr at hm
      simp only [e] at hm
      cases sv with
      | scr ns => exact (by
        obtain ⟨v, ev, o, en⟩ := st.slot e
        cases en with
        | @scr a _ h =>
          refine ⟨_, ev, a, rfl, ⟨_, h.sql⟩, ?_⟩
          have st' : Ste X.K H0 O0 σ H δ ([(.ref a, .scr ns)] ++ T) := Ste.step (Tc := []) (Tn := [(.ref a, .scr ns)]) st fun oc hc nd => by
            cases hc
            exact ⟨[], by simpa using Ents.cons (Ent.scr h) .nil, List.nodup_nil, (fun a ha => by simp at ha), Kp.refl _ _⟩
          refine hm _ H _ st' ⟨fun i H x H' => H' = H ∧ (ns.map V.int)[i]? = some x, ⟨fun i H hi g => ?_, fun H g => ?_, fun i H x H' hi g y => ?_⟩, fun i H x H' y g => ?_⟩
          · obtain ⟨o, en⟩ := g _ List.mem_cons_self
            cases en with | scr q => exact walk_list.goes i H (by simpa using hi) q.sql
          · obtain ⟨o, en⟩ := g _ List.mem_cons_self
            cases en with | scr q => simpa using walk_list.stops H q.sql
          · obtain ⟨o, en⟩ := g _ List.mem_cons_self
            cases en with | scr q => exact walk_list.yields i H x H' (by simpa using hi) q.sql y
          · obtain ⟨rfl, e⟩ := y
            rw [List.getElem?_map] at e
            cases e2 : ns[i]? with
            | none => rw [e2] at e; cases e
            | some n =>
              rw [e2] at e; cases e
              exact ⟨Kp.refl _ _, .int n, by rw [List.getElem?_map, e2]; rfl, .int n⟩)
      | _ => exact hm.elim
/-! ### comprehensions -/
/-- what may not be raised within -/
def noW : WX := fun _ _ _ _ => False
theorem se_comp {elt tg iter : Expr} {ifs : List Expr} {scope : Scope} {own : List (Str × Nat)} {mi : M (List PyData)} {g : TgD} {t : M Bool} {e : M Opd} {is : List Nat} (hc : X.calm = true) (hN : X.N.Nodup) (his : ∀ i ∈ is, i ∈ own.map (·.2)) (hnd : (own.map (·.2)).Nodup) (ok : BlkOk X.N X.env.scope scope own)
    (hi : SI X W tg iter mi) (hg : ∀ (s : Shared) (H : Hp) (C : Addr) (cl : List (Str × Addr)) (fp : List Addr), SG (X.blk s H scope (compEnvC scope cl C X.env) fp) tg g is) (ht : ∀ (s : Shared) (H : Hp) (C : Addr) (cl : List (Str × Addr)) (fp : List Addr), PTs (X.blk s H scope (compEnvC scope cl C X.env) fp) ifs (tT X.K noW t))
    (he : ∀ (s : Shared) (H : Hp) (C : Addr) (cl : List (Str × Addr)) (fp : List Addr), SE (X.blk s H scope (compEnvC scope cl C X.env) fp) noW elt e) (hs : ∀ x, foldedSetIterable iter X.env x = pure x) :
    SE X W (.ListComp elt [⟨tg, iter, ifs, 0⟩] scope pos) (eComp mi g t e (own.map (·.2))) :=
  (pe_lc (te := fun σ H Q => tE X.K noW e σ H fun v H' => Gh (Q v) H') hc hN hi ok hg ht (fun s H C cl fp => (he s H C cl fp).gh) hs).imp fun σ H Q h => comp_t his hnd h
end
end Ev

/-! D16: augmented assignments, rows of names, methods of lists and texts, reversed lists, texts of data. -/
namespace Ev
open PySem PySem.Spec L2
open PyProof.Rows hiding St
variable [Tb]

/-- x += e, x an int -/
def sAugI (f : Int → Int → Int) (i : Nat) (m : M Opd) : M Flw := fun δ => match at? δ i with
  | some (.dat (.int a)) => bnd m (fun o δ' => match o.data δ' with
      | some (.int b) => .ok .nx (δ'.set i (some (.dat (.int (f a b)))))
      | _ => .bad) δ
  | _ => .bad
/-- names in a row -/
def setsN : List Nat → List SV → DS → DS
  | i :: is, s :: ss, δ => setsN is ss (δ.set i (some s))
  | _, _, δ => δ
def takeV : List Opd → M (List SV)
  | [] => ret []
  | o :: os => bnd (take o) fun s => bnd (takeV os) fun ss => ret (s :: ss)
def sPar (is : List Nat) (ms : List (M Opd)) : M Flw := bnd (evs ms) fun os => bnd (takeV os) fun ss δ => if ss.length = is.length ∧ is.all (· < δ.length) = true then .ok .nx (setsN is ss δ) else .bad
/-- xs.append(e) -/
def eApp (mo m : M Opd) : M Opd := bnd mo fun o => bnd m fun a => bnd (takeD a) fun d δ => match o with
  | .slot i => match at? δ i with
    | some (.lst ds) => if ds.length < sizeLine then .ok (.val (.dat .none)) (δ.set i (some (.lst (ds ++ [d])))) else .bad
    | _ => .bad
  | _ => .bad
/-- a method of data: what it is out of the receiver and the operands -/
def eMth (T : String) (f : List PyData → Option SV) (mo : M Opd) (ms : M (List Opd)) : M Opd := bnd mo fun o => bnd ms fun os => opN f (o :: os)
def gRev : PyData → Option SV
  | .list ds => some (.lst ds.reverse)
  | _ => none
section
variable {X : Cx} {W : WX} {as : List Nat} {pos p p2 p3 p4 apos cpos : Pos}
theorem ss_augI {op : Operator} {f : Int → Int → Int} {i : Nat} {x : Str} {e : Expr} {m : M Opd} (ho : PIp X op (ipI f)) (hN : X.N.Nodup) (hi : X.N[i]? = some x) (hx : Loc X.env.scope x) (hf : X.fn x = true ∨ X.env.scope.names.lookup x = some .local) (hin : ∀ j ∈ [i], j ∈ as) (he : SE X W e m) :
    SS X W as (.AugAssign (.Name x p) op e pos) (sAugI f i m) := (ps_aug hN hi hx he ho hf).imp fun D σ H h => by
  obtain ⟨σ0, H0, O0, T, δ, ap, st, hm⟩ := h
  cases e0 : at? δ i with
  | none => unfold sAugI at hm; simp only [e0] at hm; exact hm.elim
  | some sv =>
    unfold sAugI at hm
    simp only [e0] at hm
    cases sv with
    | dat d =>
      cases d with
      | int a =>
        simp only at hm
        obtain ⟨v, ev, o, en⟩ := st.slot e0
        cases en with
        | dat iv =>
          cases iv
          refine ⟨_, ev, H0, O0, T, δ, st, ?_⟩
          unfold bnd at hm
          cases e1 : m δ with
          | bad => simp only [e1] at hm; exact hm
          | exn y δ1 => simp only [e1] at hm; exact fun cls d H' a b => hm cls d σ H' ap a b
          | ok o δ1 =>
            simp only [e1] at hm
            intro w H1 ov st1
            cases e2 : o.data δ1 with
            | none => simp only [e2] at hm; exact hm.elim
            | some d =>
              simp only [e2] at hm
              cases d with
              | int b =>
                cases (opd_int ov st1 e2).int
                have hl : i < δ1.length := by
                  have l1 : σ.length = δ.length := by obtain ⟨L, z, _⟩ := st; exact z.length
                  have l2 : σ.length = δ1.length := by obtain ⟨L, z, _⟩ := st1; exact z.length
                  rw [← l2, l1]; exact at?_lt e0
                exact ⟨a, b, rfl, rfl, hm _ H1 (ap.trans (apart_set.mono hin)) ((st1.drop.res (Res.same (.int (f a b)))).put hl)⟩
              | _ => exact hm.elim
      | _ => exact hm.elim
    | _ => exact hm.elim
theorem takeV_gh {K : PySem.W.Frag} {H0 : Hp} {O0 : List Addr} {σ : St} : ∀ {os : List Opd} {vs : List V} {T : List (V × SV)} {δ δ' : DS} {H : Hp} {ss : List SV}, OpdVs σ vs os → Ste K H0 O0 σ H δ (tmps vs os ++ T) → takeV os δ = .ok ss δ' → ∀ {Q : Hp → Prop},
    (∀ H', Stays H H' → vs.length = ss.length → Ste K H0 O0 σ H' δ' (vs.zip ss ++ T) → Q H') → Gh Q H
  | [], _, _, _, _, H, _, .nil, h, e, Q, q => by cases e; exact .done (q H (Stays.refl _) rfl h)
  | o :: os, v :: vs, T, δ, δ', H, ss, .cons ov ovs, h, e, Q, q => by
    unfold takeV bnd at e
    cases e1 : take o δ with
    | bad => simp only [e1] at e; cases e
    | exn x δ1 => exact absurd e1 take_noexn
    | ok s δ1 =>
      simp only [e1] at e
      cases e2 : takeV os δ1 with
      | bad => simp only [e2] at e; cases e
      | exn x δ2 => simp only [e2] at e; cases e
      | ok ss' δ2 =>
        simp only [e2, ret] at e
        cases e
        have h' : Ste K H0 O0 σ H δ (tmp v o ++ (tmps vs os ++ T)) := h.perm (by
          simp only [tmps]
          rw [List.append_assoc, ← List.append_assoc, ← List.append_assoc]
          exact List.perm_append_comm.append_right T)
        refine Gh.bind (take_gh (Q := fun H1 => Stays H H1 ∧ Ste K H0 O0 σ H1 δ1 ((v, s) :: (tmps vs os ++ T))) ov h' e1 fun H1 s1 st1 => ⟨s1, st1⟩) fun H1 ⟨s1, st1⟩ => ?_
        have st2 : Ste K H0 O0 σ H1 δ1 (tmps vs os ++ ((v, s) :: T)) := st1.perm List.perm_middle.symm
        exact takeV_gh ovs st2 e2 fun H2 s2 l st3 => q H2 (s1.trans s2) (by simp [l]) (st3.perm (by
          rw [List.zip_cons_cons, List.cons_append]
          exact List.perm_middle))
/-- what a row of names wants -/
def parQ (K : PySem.W.Frag) (is : List Nat) (D : Ends) (σ : St) (vs : List V) (H : Hp) : Prop := ∃ ss H0 O0 T δ, Ste K H0 O0 σ H δ (vs.zip ss ++ T) ∧ vs.length = is.length ∧ ss.length = is.length ∧ (∀ i ∈ is, i < δ.length) ∧ ∀ σ' H', Apart is σ σ' → Ste K H0 O0 σ' H' (setsN is ss δ) T → D.nx σ' H'
theorem par_t {is : List Nat} {ms : List (M Opd)} {D : Ends} {σ : St} {H : Hp} (hin : ∀ i ∈ is, i ∈ as) (h : tS X.K W as (sPar is ms) D σ H) : tA X.K W (evs ms) σ H fun vs H1 => Gh (parQ X.K is D σ vs) H1 := by
  obtain ⟨σ0, H0, O0, T, δ, ap, st, hm⟩ := h
  refine ⟨H0, O0, T, δ, st, ?_⟩
  unfold sPar bnd at hm
  cases e1 : evs ms δ with
  | bad => simp only [e1] at hm; exact hm
  | exn x δ1 => simp only [e1] at hm; exact fun cls d H' a b => hm cls d σ H' ap a b
  | ok os δ1 =>
    simp only [e1] at hm
    intro vs H1 ov st1
    have noexn : ∀ {os : List Opd} {δ δ' : DS} {x : Exn}, takeV os δ ≠ .exn x δ' := by
      intro os
      induction os with
      | nil => intro δ δ' x h; cases h
      | cons o os ih =>
        intro δ δ' x h
        unfold takeV bnd at h
        cases e1 : take o δ with
        | bad => simp only [e1] at h; cases h
        | exn y δ1 => exact take_noexn e1
        | ok s δ1 =>
          simp only [e1] at h
          cases e2 : takeV os δ1 with
          | bad => simp only [e2] at h; cases h
          | exn y δ2 => exact ih e2
          | ok ss δ2 => simp only [e2, ret] at h; cases h
    cases e2 : takeV os δ1 with
    | bad => simp only [e2] at hm; exact hm.elim
    | exn x δ2 => exact absurd e2 noexn
    | ok ss δ2 =>
      simp only [e2] at hm
      by_cases c : ss.length = is.length ∧ is.all (· < δ2.length) = true
      · simp only [if_pos c] at hm
        refine takeV_gh ov st1 e2 fun H2 _ l st2 => ⟨ss, H0, O0, T, δ2, st2, l.trans c.1, c.1, fun i hi => by have := List.all_eq_true.mp c.2 i hi; simpa using this, fun σ' H' ap' st' => hm σ' H' (ap.trans (ap'.mono hin)) st'⟩
      · simp only [if_neg c] at hm
        exact hm.elim
theorem ss_par2 {i j : Nat} {x y : Str} {a b : Expr} {ms : List (M Opd)} {px py pt : Pos} {kt k2 : Nat} {pt2 : Pos} (hin : ∀ k ∈ [i, j], k ∈ as) (hc : X.calm = true) (hN : X.N.Nodup) (hi : X.N[i]? = some x) (hj : X.N[j]? = some y) (hij : i ≠ j) (hx : X.env.scope.names.lookup x = some .local) (hy : X.env.scope.names.lookup y = some .local)
    (ha : SA X W [a, b] (evs ms)) (hw : swappedStores [.Tuple [.Name x px, .Name y py] kt pt] (.Tuple [a, b] k2 pt2) X.env = pure (some [x, y])) (hs : swapsWithSole [.Tuple [.Name x px, .Name y py] kt pt] (.Tuple [a, b] k2 pt2) pos.line X.env = pure false) :
    SS X W as (.Assign [.Tuple [.Name x px, .Name y py] kt pt] (.Tuple [a, b] k2 pt2) pos) (sPar [i, j] ms) := (ps_par hc hN hi hj hij hx hy ha.gh hw hs).imp fun D σ H h => by
  have q := par_t hin h
  obtain ⟨H0, O0, T, δ, st, hm⟩ := q
  refine ⟨H0, O0, T, δ, st, ?_⟩
  cases e : evs ms δ with
  | bad => simp only [e] at hm
  | exn x δ1 => simp only [e] at hm; exact hm
  | ok os δ1 =>
    simp only [e] at hm
    intro vs H1 ov st1
    refine (hm vs H1 ov st1).mono fun H2 ⟨ss, K0, O1, T1, δ2, st2, l1, l2, l3, fin⟩ => ?_
    match vs, ss, l1, l2 with
    | [v, w], [s, t], _, _ =>
      refine ⟨v, w, rfl, fin _ H2 ?_ ?_⟩
      · exact (apart_set.mono (by simp)).trans (apart_set.mono (by simp))
      · have s1 := Ste.put (i := i) (show Ste X.K K0 O1 σ H2 δ2 ((v, s) :: ((w, t) :: T1)) from st2) (l3 i (by simp))
        exact Ste.put (i := j) s1 (by rw [List.length_set]; exact l3 j (by simp))
theorem ss_par3 {i j l : Nat} {x y z : Str} {a b c : Expr} {ms : List (M Opd)} {px py pz pt : Pos} {kt k2 : Nat} {pt2 : Pos} (hin : ∀ k ∈ [i, j, l], k ∈ as) (hc : X.calm = true) (hN : X.N.Nodup) (hi : X.N[i]? = some x) (hj : X.N[j]? = some y) (hl : X.N[l]? = some z) (hij : i ≠ j) (hil : i ≠ l) (hjl : j ≠ l)
    (hx : X.env.scope.names.lookup x = some .local) (hy : X.env.scope.names.lookup y = some .local) (hz : X.env.scope.names.lookup z = some .local) (ha : SA X W [a, b, c] (evs ms))
    (hw : swappedStores [.Tuple [.Name x px, .Name y py, .Name z pz] kt pt] (.Tuple [a, b, c] k2 pt2) X.env = pure (some [x, y, z])) (hs : swapsWithSole [.Tuple [.Name x px, .Name y py, .Name z pz] kt pt] (.Tuple [a, b, c] k2 pt2) pos.line X.env = pure false) :
    SS X W as (.Assign [.Tuple [.Name x px, .Name y py, .Name z pz] kt pt] (.Tuple [a, b, c] k2 pt2) pos) (sPar [i, j, l] ms) := (ps_par3 hc hN hi hj hl hij hil hjl hx hy hz ha.gh hw hs).imp fun D σ H h => by
  have q := par_t hin h
  obtain ⟨H0, O0, T, δ, st, hm⟩ := q
  refine ⟨H0, O0, T, δ, st, ?_⟩
  cases e : evs ms δ with
  | bad => simp only [e] at hm
  | exn x δ1 => simp only [e] at hm; exact hm
  | ok os δ1 =>
    simp only [e] at hm
    intro vs H1 ov st1
    refine (hm vs H1 ov st1).mono fun H2 ⟨ss, K0, O1, T1, δ2, st2, l1, l2, l3, fin⟩ => ?_
    match vs, ss, l1, l2 with
    | [u, v, w], [r, s, t], _, _ =>
      refine ⟨u, v, w, rfl, fin _ H2 ?_ ?_⟩
      · exact (apart_set.mono (by simp)).trans ((apart_set.mono (by simp)).trans (apart_set.mono (by simp)))
      · have s1 := Ste.put (i := i) (show Ste X.K K0 O1 σ H2 δ2 ((u, r) :: ((v, s) :: (w, t) :: T1)) from st2) (l3 i (by simp))
        have s2 := Ste.put (i := j) s1 (by rw [List.length_set]; exact l3 j (by simp))
        exact Ste.put (i := l) s2 (by rw [List.length_set, List.length_set]; exact l3 l (by simp))
/-- a tuple that is taken apart at once: longer rows, rows of constants -/
theorem ss_parN {es gs : List Expr} {is : List Nat} {ms : List (M Opd)} {kt k2 : Nat} {pt pt2 : Pos} (hin : ∀ k ∈ is, k ∈ as) (hc : X.calm = true) (hp : gs.all plainE = true) (hl : is.length = gs.length) (hn : is.length ≤ sizeLine) (ha : SA X W es (evs ms))
    (hg : PGs X gs (fun vs σ H Q => ∃ D : Ends, D.nx = Q ∧ parQ X.K is D σ vs H)) (hw : swappedStores [.Tuple gs kt pt] (.Tuple es k2 pt2) X.env = pure none) (hs : swapsWithSole [.Tuple gs kt pt] (.Tuple es k2 pt2) pos.line X.env = pure false) :
    SS X W as (.Assign [.Tuple gs kt pt] (.Tuple es k2 pt2) pos) (sPar is ms) :=
  (ps_asg (pe_tup ha.gh) (pg_tup hc hg (each_len hp).1 (each_len hp).2) hs hw (by rw [each_plain (by rfl)]; rfl)).imp fun D σ H h => by
    have q := par_t hin h
    obtain ⟨H0, O0, T, δ, st, hm⟩ := q
    refine ⟨H0, O0, T, δ, st, ?_⟩
    cases e : evs ms δ with
    | bad => simp only [e] at hm
    | exn x δ1 => simp only [e] at hm; exact hm
    | ok os δ1 =>
      simp only [e] at hm
      intro vs H1 ov st1
      refine (hm vs H1 ov st1).mono fun H2 ⟨ss, K0, O1, T1, δ2, st2, l1, l2, l3, fin⟩ => ?_
      refine ⟨by rw [l1]; exact hn, fun p hp => ⟨p, vs, rfl, .inl (.inl upd_same), by rw [l1, hl], D, rfl, ss, K0, O1, T1, δ2, ?_, l1, l2, l3, fin⟩⟩
      exact Ste.step (Tc := []) (Tn := []) st2 fun oc hc nd => by
        cases hc
        exact ⟨[], .nil, List.nodup_nil, (fun a ha => by simp at ha), Kp.new hp⟩
theorem pgs_nilN {is : List Nat} : PGs X [] (fun vs σ H Q => ∃ D : Ends, D.nx = Q ∧ parQ X.K [] D σ vs H) := pgs_nil.imp fun vs σ H Q h => by
  obtain ⟨D, rfl, ss, H0, O0, T, δ, st, l1, l2, _, fin⟩ := h
  match vs, ss, l1, l2 with
  | [], [], _, _ => exact ⟨rfl, fin σ H (Apart.refl _ _) st⟩
theorem pgs_consN {x : Str} {es : List Expr} {i : Nat} {is : List Nat} (hN : X.N.Nodup) (hi : X.N[i]? = some x) (hx : Loc X.env.scope x) (hf : X.fn x = true ∨ X.env.scope.names.lookup x = some .local) (h : PGs X es (fun vs σ H Q => ∃ D : Ends, D.nx = Q ∧ parQ X.K is D σ vs H)) :
    PGs X (.Name x p :: es) (fun vs σ H Q => ∃ D : Ends, D.nx = Q ∧ parQ X.K (i :: is) D σ vs H) := (pgs_cons (pg_name hN hi hx hf) h (by rw [each_plain (by rfl)]; rfl)).imp fun vs σ H Q h => by
  obtain ⟨D, rfl, ss, H0, O0, T, δ, st, l1, l2, l3, fin⟩ := h
  match vs, ss, l1, l2 with
  | v :: vs, s :: ss, l1, l2 =>
    refine ⟨v, vs, rfl, D, rfl, ss, H0, O0, T, δ.set i (some s), Ste.put (show Ste X.K H0 O0 σ H δ ((v, s) :: (vs.zip ss ++ T)) from st) (l3 i (by simp)), by simpa using l1, by simpa using l2, fun j hj => by rw [List.length_set]; exact l3 j (by simp [hj]), fun σ' H' ap' st' => fin σ' H' ((apart_set.mono (by simp)).trans (ap'.mono fun k hk => List.mem_cons_of_mem _ hk)) st'⟩
end
end Ev

/-! D17: methods of lists and texts, reversed lists, repr, chains. -/
namespace Ev
open PySem PySem.Spec L2
open PyProof.Rows hiding St
variable [Tb]

/-- xs.append(e), xs in a slot -/
def eAppd (i : Nat) (m : M Opd) : M Opd := fun δ => match at? δ i with
  | some (.lst _) => bnd m (fun a => bnd (takeD a) fun d δ' => match at? δ' i with
      | some (.lst ds) => if ds.length < sizeLine then .ok (.val (.dat .none)) (δ'.set i (some (.lst (ds ++ [d])))) else .bad
      | _ => .bad) δ
  | _ => .bad
/-- a method of data of the type T -/
def eMt (T : String) (f : List PyData → Option SV) (mo : M Opd) (ms : M (List Opd)) : M Opd := bnd mo fun o δ => match o.data δ with
  | some d => if tyN d = T then bnd ms (fun os => opN f (o :: os)) δ else .bad
  | none => .bad
def gUpper : List PyData → Option SV
  | [.str a] => if a.length ≤ 5592405 then some (.dat (.str (Txt.upper a))) else none
  | _ => none
def gWords : List PyData → Option SV
  | [.str a] => if a.length + 2 ≤ sizeLine then some (.lst ((Txt.words a).map .str)) else none
  | _ => none
def gJoin : List PyData → Option SV
  | [.str a, .list ds] => match txts ds with
    | some ys => if (ys.map (·.length)).sum + ys.length * a.length ≤ 16777216 then some (.dat (.str (Txt.join a ys))) else none
    | none => none
  | _ => none
def gRevL : PyData → Option SV
  | .list ds => some (.lst ds.reverse)
  | _ => none
def gRepr (d : PyData) : Option SV := if (d.canLay0 && d.showable && decide (d.depth ≤ 64) && decide (d.shown.length ≤ sizeLine)) = true then some (.dat (.str d.shown)) else none
def BM (X : Cx) (id : String) (F : List PyData → Option SV) : Prop := MtR X id fun x xs H Q => rN X.K F (x :: xs) H Q
section
variable {X : Cx} {W : WX} {as : List Nat} {pos p p1 p2 p3 p4 apos cpos : Pos}
theorem se_app {i : Nat} {x : Str} {e : Expr} {m : M Opd} (hN : X.N[i]? = some x) (hv : Vis X.env.scope x) (hd : (x == ("__debug__" : Str)) = false) (hcd : (x == ("__classdict__" : Str)) = false) (hp : plainE e = true) (he : SE X W e m)
    (hbase : attributeBase (.Name x p) "append" X.env (eval (.Name x p) X.env) = eval (.Name x p) X.env)
    (hfew : ((backTo cpos (starEach (e :: []) X.env)).all (fun x => !x.1) && (backToKw cpos (keywordEach [] X.env)).all (fun x => x.1.isSome) && decide ((e :: []).length + ([] : List Keyword).length + (if ([] : List Keyword).isEmpty then 0 else 1) < 30)) = true)
    (hline : (apos.endLine == cpos.line) = true) : SE X W (.Call (.Attribute (.Name x p) "append" apos) [e] [] cpos) (eAppd i m) :=
  (pe_bm PySem.F.plainAttrs_list PySem.F.slot_list_append PySem.F.type_list_append mt_append (pe_var hN hv hd hcd) (pa_cons he pa_nil (star_plain hp _ _)).gh hbase hfew hline (star_plain hp _ _) (by rfl)).imp fun σ H Q h => by
    obtain ⟨H0, O0, T, δ, st, hm⟩ := h
    cases e0 : at? δ i with
    | none => unfold eAppd at hm; simp only [e0] at hm
    | some sv =>
      unfold eAppd at hm
      simp only [e0] at hm
      cases sv with
      | lst ds0 =>
        simp only at hm
        obtain ⟨v, ev, o, en⟩ := st.slot e0
        cases en with
        | @lst l vs0 _ h1 t1 =>
          refine ⟨_, ev, .inl ⟨rfl, _, .inl (.inl h1)⟩, H0, O0, T, δ, st, ?_⟩
          unfold bnd at hm
          cases e1 : m δ with
          | bad => simp only [e1] at hm
          | exn y δ1 => simp only [e1] at hm; exact hm
          | ok o δ1 =>
            simp only [e1] at hm
            intro w H1 ov st1
            cases e2 : takeD o δ1 with
            | bad => simp only [e2] at hm
            | exn y δ2 => exact absurd e2 takeD_noexn
            | ok d δ2 =>
              simp only [e2] at hm
              refine takeD_gh ov st1 e2 fun H2 _ st2 iw => ?_
              cases e3 : at? δ2 i with
              | none => simp only [e3] at hm
              | some sv2 =>
                simp only [e3] at hm
                cases sv2 with
                | lst ds =>
                  simp only at hm
                  by_cases c : ds.length < sizeLine
                  · simp only [if_pos c] at hm
                    obtain ⟨v', ev', o', en'⟩ := st2.slot e3
                    have q : v' = .ref l := by rw [ev] at ev'; cases ev'; rfl
                    subst q
                    cases en' with
                    | @lst _ vs _ h2 t2 =>
                      refine ⟨l, vs, w, rfl, rfl, h2, by rw [t2.length]; exact c, ?_⟩
                      refine hm _ _ True.intro (Ste.res ?_ (Res.same .non))
                      refine st2.swapSlot e3 ev fun oc en nd => ?_
                      cases en with
                      | @lst _ vs' _ h3 t3 =>
                        have q : vs' = vs := by rw [h2] at h3; cases h3; rfl
                        subst q
                        have sy : Stays H2 (upd H2 l (.lst (vs' ++ [w]))) := (Kp.at (O := [l]) (by simp)).stays fun b hb => by simp at hb; subst hb; exact ⟨_, h2, by simp, by simp, by simp, fixed_lst⟩
                        exact ⟨[l], .lst upd_same ((t3.append (.cons iw .nil)).stays sy), by simp, fun a ha => .inl (by simpa using ha), Kp.at (by simp)⟩
                  · simp only [if_neg c] at hm
                | _ => exact hm.elim
      | _ => exact hm.elim
theorem ty_tyV {K : PySem.W.Frag} {H : Hp} {v : V} {d : PyData} (h : Opn K H v d) (hT : tyN d = "str" ∨ tyN d = "list") : tyV K (tyN d) v H := by
  cases h with
  | dat h =>
    cases h with
    | str x => rfl
    | lst h _ => obtain ⟨o, h⟩ := h; exact .inl ⟨rfl, _, .inl (.inr ⟨o, h⟩)⟩
    | non => simp [tyN] at hT
    | bl b => simp [tyN] at hT
    | int i => simp [tyN] at hT
    | tup _ _ => simp [tyN] at hT
    | dic _ _ => simp [tyN] at hT
    | exn _ _ => simp [tyN, xD] at hT
    | exf _ _ _ _ => simp [tyN, xD] at hT
  | lst h _ => exact .inl ⟨rfl, _, .inl (.inl h)⟩
  | dic h _ => simp [tyN] at hT
theorem mt_t {K : PySem.W.Frag} {T : String} {f : List PyData → Option SV} {mo : M Opd} {ms : M (List Opd)} (hT : T = "str" ∨ T = "list") {σ : St} {H : Hp} {Q : VK} (h : tE K W (eMt T f mo ms) σ H Q) :
    tE K W mo σ H fun x H1 => tyV K T x H1 ∧ tA K W ms σ H1 fun xs H2 => rN K f (x :: xs) H2 Q := by
  obtain ⟨H0, O0, T0, δ, st, hm⟩ := h
  refine ⟨H0, O0, T0, δ, st, ?_⟩
  unfold eMt bnd at hm
  cases e1 : mo δ with
  | bad => simp only [e1] at hm
  | exn x δ1 => simp only [e1] at hm; exact hm
  | ok o δ1 =>
    simp only [e1] at hm
    intro x H1 ov st1
    cases e2 : o.data δ1 with
    | none => simp only [e2] at hm
    | some d =>
      simp only [e2] at hm
      by_cases c : tyN d = T
      · simp only [if_pos c] at hm
        subst c
        refine ⟨ty_tyV (opd_int ov st1 e2) hT, H0, O0, tmp x o ++ T0, δ1, st1, ?_⟩
        cases e3 : ms δ1 with
        | bad => simp only [e3] at hm
        | exn y δ2 => simp only [e3] at hm; exact fun cls d H' a b => hm cls d H' a b.drop
        | ok os δ2 =>
          simp only [e3] at hm
          intro vs H2 ovs st2
          unfold opN at hm
          cases e4 : datas δ2 (o :: os) with
          | none => simp only [e4] at hm
          | some ds =>
            simp only [e4] at hm
            cases e5 : f ds with
            | none => simp only [e5] at hm
            | some s =>
              simp only [e5] at hm
              have st3 : Ste K H0 O0 σ H2 δ2 (tmps (x :: vs) (o :: os) ++ T0) := by simpa [tmps] using st2
              refine ⟨ds, s, datas_opn (.cons ov ovs) st3 e4, e5, fun v H' r => hm v H' True.intro ?_⟩
              refine Ste.drop (T' := tmps (x :: vs) (o :: os)) (Ste.perm (st3.res r) ?_)
              have p := (List.perm_append_comm (l₁ := [(v, s)]) (l₂ := tmps (x :: vs) (o :: os))).append_right T0
              rw [List.append_assoc, List.append_assoc] at p
              exact p
      · simp only [if_neg c] at hm
theorem se_mt0 {T id : String} {name : Str} {f : List PyData → Option SV} {o : Expr} {mo : M Opd} (hT : T = "str" ∨ T = "list") (pa : PlainAttrs T) (slot : Slot T name id) (hty : typeOf (.builtin id) = pure (.type "method_descriptor")) (hm : BM X id f) (ho : SE X W o mo)
    (hbase : attributeBase o name X.env (eval o X.env) = eval o X.env) (hline : (apos.endLine == cpos.line) = true) : SE X W (.Call (.Attribute o name apos) [] [] cpos) (eMt T f mo (evs [])) :=
  (pe_bm0 pa slot hty hm ho hbase hline).imp fun σ H Q h => tE_mono (mt_t hT h) fun x H1 ⟨a, b⟩ => ⟨a, tA_nil b⟩
theorem se_mt {T id : String} {name : Str} {f : List PyData → Option SV} {o e : Expr} {es : List Expr} {mo : M Opd} {ms : M (List Opd)} (hT : T = "str" ∨ T = "list") (pa : PlainAttrs T) (slot : Slot T name id) (hty : typeOf (.builtin id) = pure (.type "method_descriptor")) (hm : BM X id f) (ho : SE X W o mo) (ha : SA X W (e :: es) ms) (hp : plainE e = true)
    (hbase : attributeBase o name X.env (eval o X.env) = eval o X.env) (hfew : ((backTo cpos (starEach (e :: es) X.env)).all (fun x => !x.1) && (backToKw cpos (keywordEach [] X.env)).all (fun x => x.1.isSome) && decide ((e :: es).length + ([] : List Keyword).length + (if ([] : List Keyword).isEmpty then 0 else 1) < 30)) = true)
    (hline : (apos.endLine == cpos.line) = true) (hpl : (backTo cpos (starEach es X.env)).any (·.1) = false) : SE X W (.Call (.Attribute o name apos) (e :: es) [] cpos) (eMt T f mo ms) :=
  (pe_bm pa slot hty hm ho ha hbase hfew hline (star_plain hp _ _) hpl).imp fun σ H Q h => mt_t hT h
theorem bm_upper : BM X "str.upper" gUpper := by
  intro pins s σ H x xs v us Q I rx rxs h
  obtain ⟨ds, sv, po, e, q⟩ := h
  unfold gUpper at e
  split at e
  · cases po with | cons a t => cases t; exact (by
      split at e
      · rename_i c
        cases e
        cases a.str
        exact mt_upper pins s σ H _ _ v us Q I rx rxs ⟨_, rfl, rfl, c, q _ _ (Res.same (.str _))⟩
      · cases e)
  · cases e
theorem IsAll.txts {K : PySem.W.Frag} {H : Hp} : ∀ {ys : List Str}, IsAll K H (ys.map V.str) (ys.map PyData.str)
  | [] => .nil
  | y :: ys => .cons (.str y) IsAll.txts
theorem bm_words : BM X "str.split" gWords := by
  intro pins s σ H x xs v us Q I rx rxs h
  obtain ⟨ds, sv, po, e, q⟩ := h
  unfold gWords at e
  split at e
  · cases po with | cons a t => cases t; exact (by
      split at e
      · rename_i c
        cases e
        cases a.str
        exact mt_words pins s σ H _ _ v us Q I rx rxs ⟨_, rfl, rfl, c, fun p hp => q _ _ (Res.lst hp IsAll.txts)⟩
      · cases e)
  · cases e
theorem bm_join : BM X "str.join" gJoin := by
  intro pins s σ H x xs v us Q I rx rxs h
  obtain ⟨ds, sv, po, e, q⟩ := h
  unfold gJoin at e
  split at e
  · cases po with | cons a t => cases t with | cons b t => cases t; exact (by
      split at e
      · rename_i ys e2
        split at e
        · rename_i c
          cases e
          cases a.str
          obtain ⟨l, vs, rfl, h1, t1⟩ := b.sql
          rw [txts_vs t1 e2] at h1
          exact mt_join pins s σ H _ _ v us Q I rx rxs ⟨_, l, ys, rfl, rfl, .inl h1, c, q _ _ (Res.same (.str _))⟩
        · cases e
      · cases e)
  · cases e
theorem se_revL {e : Expr} {m : M Opd} {k : Nat} (he : SE X W e m) : SE X W (.Subscript e (.Slice none none (some (.UnaryOp .USub (.Constant (.int 1) k p1) p2)) p3) pos) (eOp (g1 gRevL) [m]) :=
  (pe_revL he).imp fun σ H Q h => tE_mono (one_t h) fun x H1 q => by
    obtain ⟨ds, sv, po, e, q⟩ := q
    obtain ⟨d, rfl, a⟩ := one_opn po
    have e : gRevL d = some sv := e
    unfold gRevL at e
    split at e
    · cases e
      obtain ⟨l, vs, rfl, h1, t1⟩ := a.sql
      exact ⟨l, vs, rfl, h1, fun p hp => q _ _ (Res.lst hp t1.reverse)⟩
    · cases e
/-! ### repr -/
theorem br_repr (hG : X.A.guards = some []) (hu : X.A.units + 66 < cLine) : BR X (.builtin "repr") (g1 gRepr) := by
  intro pins s σ H xs us Q I r h
  obtain ⟨ds, sv, po, e, q⟩ := h
  obtain ⟨d, ed, hd⟩ : ∃ d, ds = [d] ∧ gRepr d = some sv := by
    unfold g1 at e
    split at e
    · exact ⟨_, rfl, e⟩
    · cases e
  subst ed
  unfold gRepr at hd
  split at hd
  · rename_i c
    simp only [Bool.and_eq_true, decide_eq_true_eq] at c
    obtain ⟨⟨⟨c1, c2⟩, c3⟩, c4⟩ := c
    cases hd
    cases po with
    | cons a t =>
      cases t
      cases r with
      | cons rx rr =>
        cases rr
        have dp := a.dp c1
        obtain ⟨as, rd⟩ := Dp.reads I _ _ _ dp rx
        cases d with
        | none =>
          cases rd
          exact PySem.P.repr_of_none ⟨.str _, H, I.tok _, ⟨_, rfl⟩, q _ _ (Res.same (.str _))⟩
        | bool b =>
          cases rd
          refine PySem.P.repr_of_bool ⟨.str _, H, I.tok _, ⟨_, rfl⟩, ?_⟩
          exact q _ _ (Res.same (.str _))
        | int i =>
          cases rd
          refine PySem.P.repr_of_int (by simpa [PyData.showable] using c2) ⟨.str _, H, I.tok _, ⟨_, rfl⟩, ?_⟩
          exact q _ _ (Res.same (.str _))
        | str x =>
          cases rd
          refine PySem.P.repr_of_str ⟨.str _, H, I.tok _, ⟨_, rfl⟩, ?_⟩ c4
          exact q _ _ (Res.same (.str _))
        | list zs =>
          obtain ⟨l, e⟩ : ∃ l, ‹Value› = .ref l := by cases rd; exact ⟨_, rfl⟩
          subst e
          exact repr_of_reads' rd c2 (PySem.PyData.noDict_hsm (PySem.PyData.hasDict_of_canLay _ c1)) hG (by omega) (fun _ _ e => e) (fun h' u tk k => ⟨.str _, H, I.kept k, ⟨_, rfl⟩, q _ _ (Res.same (.str _))⟩) c4
        | tuple zs =>
          obtain ⟨l, e⟩ : ∃ l, ‹Value› = .ref l := by cases rd; exact ⟨_, rfl⟩
          subst e
          exact repr_of_reads' rd c2 (PySem.PyData.noDict_hsm (PySem.PyData.hasDict_of_canLay _ c1)) hG (by omega) (fun _ _ e => e) (fun h' u tk k => ⟨.str _, H, I.kept k, ⟨_, rfl⟩, q _ _ (Res.same (.str _))⟩) c4
        | dict kvs => simp [PyData.canLay0] at c1
  · cases hd
end
end Ev

/-! D18: chains, a list made for a name, calls without arguments, the module's constants. -/
namespace Ev
open PySem PySem.Spec L2
open PyProof.Rows hiding St
variable [Tb]

section
variable {X : Cx} {W : WX} {as : List Nat} {pos p p1 p2 p3 p4 apos cpos : Pos}
theorem takes_no : Takes X noW := fun u s' h => by
  obtain ⟨_, _, _, _, _, _, _, _, _, _, _, _, _, _, _, _, h⟩ := h
  exact h.elim
theorem chain_t {K : PySem.W.Frag} {o1 o2 : CmpOp} {a b c : M Opd} {r r' : R2} (hr : ∀ x y H Q, rN K (gB2 (gCmp o1)) [x, y] H Q → r x y H Q) (hr' : ∀ x y H Q, rN K (gB2 (gCmp o2)) [x, y] H Q → r' x y H Q) {σ : St} {H : Hp} {Q : VK} (h : tE K W (eChain o1 o2 a b c) σ H Q) :
    tChain r r' (tE K W a) (tE K W b) (tE K W c) σ H Q := by
  obtain ⟨H0, O0, T, δ, st, hm⟩ := h
  refine ⟨H0, O0, T, δ, st, ?_⟩
  unfold eChain bnd at hm
  cases e1 : a δ with
  | bad => simp only [e1] at hm
  | exn x δ1 => simp only [e1] at hm; exact hm
  | ok x δ1 =>
    simp only [e1] at hm
    intro v H1 ov st1
    refine ⟨H0, O0, tmp v x ++ T, δ1, st1, ?_⟩
    cases e2 : b δ1 with
    | bad => simp only [e2] at hm
    | exn y δ2 => simp only [e2] at hm; exact fun cls d H' a b => hm cls d H' a b.drop
    | ok y δ2 =>
      simp only [e2] at hm
      intro w H2 ow st2
      have st3 : Ste K H0 O0 σ H2 δ2 (tmps [v, w] [x, y] ++ T) := by simpa [tmps] using st2
      unfold opN at hm
      cases e3 : datas δ2 [x, y] with
      | none => simp only [e3] at hm
      | some ds =>
        simp only [e3] at hm
        cases e4 : gB2 (gCmp o1) ds with
        | none => simp only [e4] at hm
        | some s =>
          simp only [e4] at hm
          have po := datas_opn (.cons ov (.cons ow .nil)) st3 e3
          obtain ⟨d1, d2, rfl, pa, pb⟩ := two_opn po
          obtain ⟨k, ek, rfl⟩ := Option.map_eq_some_iff.mp (show (gCmp o1 d1 d2).map (fun b => SV.dat (.bool b)) = some s from e4)
          refine hr v w H2 _ ⟨[d1, d2], _, po, e4, fun z H3 rz => ?_⟩
          have zk : z = .bl k := by
            obtain ⟨_, o, en, _⟩ := rz
            cases en with | dat i => cases i; rfl
          subst zk
          refine ⟨k, rfl, ?_⟩
          have st4 := st3.res rz
          simp only [truth, Opd.data, SV.data, Option.bind, truthy] at hm
          cases k with
          | false =>
            simp only [Bool.false_eq_true, if_false, ret] at hm ⊢
            refine hm _ H3 True.intro ?_
            refine Ste.drop (T' := tmps [v, w] [x, y]) (Ste.perm st4 ?_)
            have p := (List.perm_append_comm (l₁ := [(V.bl false, SV.dat (.bool false))]) (l₂ := tmps [v, w] [x, y])).append_right T
            rw [List.append_assoc, List.append_assoc] at p
            exact p
          | true =>
            simp only [if_true] at hm ⊢
            have st5 : Ste K H0 O0 σ H3 δ2 (tmp w y ++ (tmp v x ++ T)) := by simpa [tmps] using st4.drop1
            refine ⟨H0, O0, _, δ2, st5, ?_⟩
            cases e5 : c δ2 with
            | bad => simp only [e5] at hm
            | exn q δ3 => simp only [e5] at hm; exact fun cls d H' a b => hm cls d H' a b.drop.drop
            | ok u δ3 =>
              simp only [e5] at hm
              intro w' H4 ou st6
              -- the middle one's slot holds what it held, as a value
              cases e6 : datas δ3 [y, u] with
              | none => simp only [e6] at hm
              | some ds2 =>
                simp only [e6] at hm
                cases e7 : gB2 (gCmp o2) ds2 with
                | none => simp only [e7] at hm
                | some s2 =>
                  simp only [e7] at hm
                  have st7 : Ste K H0 O0 σ H4 δ3 (tmps [w, w'] [y, u] ++ (tmp v x ++ T)) := by simpa [tmps] using st6
                  have po2 := datas_opn (.cons ow (.cons ou .nil)) st7 e6
                  refine hr' w w' H4 _ ⟨ds2, s2, po2, e7, fun z H5 rz => hm z H5 True.intro ?_⟩
                  have st8 := st7.res rz
                  refine Ste.drop (T' := tmp v x) (Ste.drop (T' := tmps [w, w'] [y, u]) (Ste.perm st8 ?_))
                  have p := (List.perm_append_comm (l₁ := [(z, s2)]) (l₂ := tmps [w, w'] [y, u] ++ tmp v x)).append_right T
                  rw [List.append_assoc, List.append_assoc, List.append_assoc, List.append_assoc] at p
                  simpa [tmp] using p
theorem se_chain (hu : X.A.units + 65 < cLine) {o1 o2 : CmpOp} {a b c : Expr} {ma mb mc : M Opd} (ha : SE X W a ma) (hb : SE X W b mb) (hc : SE X W c mc) (hm : lastMarks [o1, o2] [b, c] = false) : SE X W (.Compare a [o1, o2] [b, c] pos) (eChain o1 o2 ma mb mc) :=
  (pe_chain (opn_cmp hu o1) (opn_cmp hu o2) ha hb hc hm).imp fun σ H Q h => chain_t (fun _ _ _ _ h => h) (fun _ _ _ _ h => h) h
theorem boolM_chain {o1 o2 : CmpOp} {a b c : M Opd} : BoolM (eChain o1 o2 a b c) := by
  refine boolM_bnd fun x => boolM_bnd fun y => ?_
  intro δ o δ' h
  unfold bnd at h
  cases e1 : opN (gB2 (gCmp o1)) [x, y] δ with
  | bad => simp only [e1] at h; cases h
  | exn q δ1 => simp only [e1] at h; cases h
  | ok z δ1 =>
    simp only [e1] at h
    obtain ⟨k, rfl⟩ := boolM_opN δ z δ1 e1
    simp only [truth, Opd.data, SV.data, Option.bind, truthy] at h
    cases k with
    | false =>
      simp only [Bool.false_eq_true, if_false, ret] at h
      cases h
      exact ⟨false, rfl⟩
    | true =>
      simp only [if_true] at h
      exact boolM_bnd (m := c) (f := fun w => opN (gB2 (gCmp o2)) [y, w]) (fun _ => boolM_opN) δ1 o δ' h
theorem st_chain (hu : X.A.units + 65 < cLine) {o1 o2 : CmpOp} {a b c : Expr} {ma mb mc : M Opd} (ha : SE X W a ma) (hb : SE X W b mb) (hc : SE X W c mc) (hm : lastMarks [o1, o2] [b, c] = false) : ST X W (.Compare a [o1, o2] [b, c] pos) (tOf (eChain o1 o2 ma mb mc)) :=
  (pt_chain (opn_cmp hu o1) (opn_cmp hu o2) ha hb hc hm).imp fun σ H Q h => chain_t (fun _ _ _ _ h => h) (fun _ _ _ _ h => h) (boolT boolM_chain h)
theorem eComp_val {mi : M (List PyData)} {g : TgD} {t : M Bool} {e : M Opd} {vs : List Nat} {δ δ' : DS} {o : Opd} (h : eComp mi g t e vs δ = .ok o δ') : ∃ s, o = .val s := by
  unfold eComp bnd at h
  cases e2 : mi δ with
  | bad => simp only [e2] at h; cases h
  | exn x δ2 => simp only [e2] at h; cases h
  | ok ds δ2 =>
    simp only [e2] at h
    cases e3 : compM g t e vs ds [] δ2 with
    | ok acc δ3 => simp only [e3] at h; cases h; exact ⟨_, rfl⟩
    | exn x δ3 => simp only [e3] at h; cases h
    | bad => simp only [e3] at h; cases h
theorem sSetV_t {g : TgD} {m : M Opd} {is : List Nat} (hin : ∀ i ∈ is, i ∈ as) (hv : ∀ {δ δ' : DS} {o : Opd}, m δ = .ok o δ' → ∃ s, o = .val s) {D : Ends} {σ : St} {H : Hp} (h : tS X.K W as (sSet g m) D σ H) : tE X.K W m σ H fun x H1 => tG X.K g is x σ H1 D.nx := by
  obtain ⟨σ0, H0, O0, T, δ, ap, st, hm⟩ := h
  refine ⟨H0, O0, T, δ, st, ?_⟩
  unfold sSet bnd at hm
  cases e1 : m δ with
  | bad => simp only [e1] at hm; exact hm
  | exn x δ1 => simp only [e1] at hm; exact fun cls d H' a b => hm cls d σ H' ap a b
  | ok o δ1 =>
    simp only [e1] at hm
    obtain ⟨s, rfl⟩ := hv e1
    intro v H1 ov st1
    simp only [take, ret, asg] at hm
    cases e3 : g s δ1 with
    | none => simp only [e3] at hm; exact False.elim hm
    | some δ3 =>
      simp only [e3] at hm
      exact ⟨H0, O0, T, δ1, s, δ3, st1, e3, fun σ' H' ap' st' => hm σ' H' (ap.trans (ap'.mono hin)) st'⟩
theorem ss_setLc {i : Nat} {y : Str} {py : Pos} {elt tg iter : Expr} {ifs : List Expr} {scope : Scope} {own : List (Str × Nat)} {spos : Pos} {mi : M (List PyData)} {g : TgD} {t : M Bool} {e : M Opd} {is : List Nat} (hin : ∀ j ∈ [i], j ∈ as) (hc : X.calm = true) (hN : X.N.Nodup) (hy : X.N[i]? = some y) (hyl : X.env.scope.names.lookup y = some .local)
    (hsw : swapsWith (.ListComp elt [⟨tg, iter, ifs, 0⟩] scope pos) (some (.Name y py)) spos.line X.env = pure true) (his : ∀ i ∈ is, i ∈ own.map (·.2)) (hnd : (own.map (·.2)).Nodup) (ok : BlkOk X.N X.env.scope scope own)
    (hi : SI X W tg iter mi) (hg : ∀ (s : Shared) (H : Hp) (C : Addr) (cl : List (Str × Addr)) (fp : List Addr), SG (X.blk s H scope (compEnvC scope cl C X.env) fp) tg g is) (ht : ∀ (s : Shared) (H : Hp) (C : Addr) (cl : List (Str × Addr)) (fp : List Addr), PTs (X.blk s H scope (compEnvC scope cl C X.env) fp) ifs (tT X.K noW t))
    (he : ∀ (s : Shared) (H : Hp) (C : Addr) (cl : List (Str × Addr)) (fp : List Addr), SE (X.blk s H scope (compEnvC scope cl C X.env) fp) noW elt e) (hs : ∀ x, foldedSetIterable iter X.env x = pure x) :
    SS X W as (.Assign [.Name y py] (.ListComp elt [⟨tg, iter, ifs, 0⟩] scope pos) spos) (sSet (Ev.gName i) (eComp mi g t e (own.map (·.2)))) :=
  (ps_setLc (g := tG X.K g is) (te := fun σ H Q => tE X.K noW e σ H fun v H' => Gh (Q v) H') hc hN hy hyl hsw hi ok hg ht (fun s H C cl fp => (he s H C cl fp).gh) hs).imp fun D σ H h =>
    comp_t his hnd (tE_mono (sSetV_t (is := [i]) hin eComp_val h) fun v H1 q => gName_t q)
theorem se_call0 {x : Str} {np : Nat} {F : FN} {k : Nat} (c : CalF X.prog X.w X.K X.mg X.base k x np F) (tk : Takes X W) (hG : X.A.guards = some []) (hr : Room k X.A) (hg : Gl X x) (hdb : (x == ("__debug__" : Str)) = false) : SE X W (.Call (.Name x p) [] [] pos) (eCall F (evs [])) := by
  obtain ⟨⟨f, fd, ps, ok, hm, hk, hb⟩, ar⟩ := c
  refine ⟨fun pins s σ H Q I h => wpAny_Call_Name_kw (ld_glob I hg hm ?_ hdb)⟩
  exact PySem.W.callWith_K0 I.kIn hk (ok.run1 (us := []) (vs := []) hG hr hb tk I .nil (tA_nil (call_t ar h)))
/-- a raise that is never reached -/
theorem ss_raiseNo {o c : Option Expr} : SS X W as (.Raise o c pos) stuck := ⟨fun pins s σ H D I h => by
  obtain ⟨_, _, _, _, _, _, _, h⟩ := h
  exact h.elim⟩
/-! ### the module's constants -/
theorem se_gstr {x z : Str} (h : ∃ t, X.mg x = some (.str z t)) (hg : Gl X x) (hd : (x == ("__debug__" : Str)) = false) : SE X W (.Name x pos) (eDat (.str z)) := by
  obtain ⟨t, h⟩ := h
  exact se_glob hg h (v := .str z) ⟨t, rfl⟩ (fun _ => .str z) hd
theorem se_gint {x : Str} {i : Int} (h : ∃ t, X.mg x = some (.int i t)) (hg : Gl X x) (hd : (x == ("__debug__" : Str)) = false) : SE X W (.Name x pos) (eDat (.int i)) := by
  obtain ⟨t, h⟩ := h
  exact se_glob hg h (v := .int i) ⟨t, rfl⟩ (fun _ => .int i) hd
theorem se_gdat {x : Str} {d : PyData} (h : ∃ a, X.mg x = some (.ref a) ∧ ∀ H, IsD X.K H (.ref a) d) (hg : Gl X x) (hd : (x == ("__debug__" : Str)) = false) : SE X W (.Name x pos) (eDat d) := by
  obtain ⟨a, h, i⟩ := h
  exact se_glob hg h (v := .ref a) rfl i hd
end
end Ev

/-! D19: sorted texts, dicts out of pairs, the drawing's state made. -/
namespace Ev
open PySem PySem.Spec L2
open PyProof.Rows hiding St

/-! ### sorted texts -/
def leS (a b : Str) : Bool := !ltCps b.cps.toList a.cps.toList
def sortT (ks : List Str) : List Str := ks.mergeSort leS
theorem ltCps_irr : ∀ a : List Nat, ltCps a a = false
  | [] => rfl
  | a :: r => by simp [ltCps, ltCps_irr r]
theorem ltCps_total : ∀ a b : List Nat, ltCps a b = false → ltCps b a = false → a = b
  | [], [], _, _ => rfl
  | [], _ :: _, h, _ => by simp [ltCps] at h
  | _ :: _, [], _, h => by simp [ltCps] at h
  | a :: r, b :: t, h1, h2 => by
    simp only [ltCps, Bool.or_eq_false_iff, decide_eq_false_iff_not, Bool.and_eq_false_iff] at h1 h2
    have e : a = b := by omega
    subst e
    have h1' : ltCps r t = false := by rcases h1.2 with q | q; simp at q; exact q
    have h2' : ltCps t r = false := by rcases h2.2 with q | q; simp at q; exact q
    rw [ltCps_total r t h1' h2']
theorem ltCps_asym : ∀ a b : List Nat, ltCps a b = true → ltCps b a = false
  | [], [], h => by simp [ltCps] at h
  | [], _ :: _, _ => rfl
  | _ :: _, [], h => by simp [ltCps] at h
  | a :: r, b :: t, h => by
    simp only [ltCps, Bool.or_eq_true, decide_eq_true_eq, Bool.and_eq_true] at h
    simp only [ltCps, Bool.or_eq_false_iff, decide_eq_false_iff_not, Bool.and_eq_false_iff]
    rcases h with h | ⟨h1, h2⟩
    · refine ⟨by omega, .inl ?_⟩
      simp; omega
    · have e : a = b := by simpa using h1
      subst e
      exact ⟨by omega, .inr (ltCps_asym r t h2)⟩
theorem ltCps_trans : ∀ a b c : List Nat, ltCps b a = false → ltCps c b = false → ltCps c a = false
  | a, b, [], _, h2 => by
    cases b with
    | nil => cases a with
      | nil => rfl
      | cons x a => assumption
    | cons y b => simp [ltCps] at h2
  | [], b, c :: r, _, _ => rfl
  | a :: s, [], c :: r, h1, _ => by simp [ltCps] at h1
  | a :: s, b :: t, c :: r, h1, h2 => by
    simp only [ltCps, Bool.or_eq_false_iff, decide_eq_false_iff_not, Bool.and_eq_false_iff] at h1 h2 ⊢
    refine ⟨by omega, ?_⟩
    by_cases e : c = a
    · subst e
      have eb : b = c := by omega
      subst eb
      right
      have q1 : ltCps t s = false := by rcases h1.2 with q | q; simp at q; exact q
      have q2 : ltCps r t = false := by rcases h2.2 with q | q; simp at q; exact q
      exact ltCps_trans s t r q1 q2
    · left; simpa using e
theorem leS_trans {a b c : Str} (h1 : leS a b = true) (h2 : leS b c = true) : leS a c = true := by
  unfold leS at *
  simp only [Bool.not_eq_true'] at *
  exact ltCps_trans _ _ _ h1 h2
theorem leS_anti {a b : Str} (h1 : leS a b = true) (h2 : leS b a = true) : a = b := by
  unfold leS at *
  simp only [Bool.not_eq_true'] at *
  have e := ltCps_total _ _ h2 h1
  cases a; cases b
  congr 1
  exact Array.toList_inj.mp e
theorem leS_total (a b : Str) : (leS a b || leS b a) = true := by
  unfold leS
  cases h : ltCps b.cps.toList a.cps.toList with
  | false => rfl
  | true => rw [ltCps_asym _ _ h]; rfl
theorem rising_pw : ∀ (p : Str) (l : List Str), risingS p l = true → (p :: l).Pairwise (fun a b => leS a b = true)
  | p, [], _ => by simp
  | p, x :: r, h => by
    have h' : (!ltCps x.cps.toList p.cps.toList && risingS x r) = true := h
    rw [Bool.and_eq_true] at h'
    have ih := rising_pw x r h'.2
    rw [List.pairwise_cons]
    refine ⟨fun y hy => ?_, ih⟩
    rcases List.mem_cons.mp hy with rfl | hy
    · exact h'.1
    · exact leS_trans h'.1 ((List.pairwise_cons.mp ih).1 y hy)
theorem sortedS_pw {l : List Str} (h : sortedS l = true) : l.Pairwise (fun a b => leS a b = true) := by
  cases l with
  | nil => exact .nil
  | cons x r => exact rising_pw x r h
theorem perm_pw_eq : ∀ {xs ys : List Str}, xs.Perm ys → xs.Pairwise (fun a b => leS a b = true) → ys.Pairwise (fun a b => leS a b = true) → xs = ys
  | [], ys, p, _, _ => (List.nil_perm.mp p).symm
  | x :: xs, [], p, _, _ => absurd p.length_eq (by simp)
  | x :: xs, y :: ys, p, hx, hy => by
    have e : x = y := by
      have h1 : x ∈ y :: ys := p.mem_iff.mp List.mem_cons_self
      have h2 : y ∈ x :: xs := p.mem_iff.mpr List.mem_cons_self
      rcases List.mem_cons.mp h1 with q | q
      · exact q
      · rcases List.mem_cons.mp h2 with q2 | q2
        · exact q2.symm
        · exact leS_anti ((List.pairwise_cons.mp hx).1 y q2) ((List.pairwise_cons.mp hy).1 x q)
    subst e
    rw [perm_pw_eq (List.perm_cons x |>.mp p) (List.pairwise_cons.mp hx).2 (List.pairwise_cons.mp hy).2]
theorem sortT_uniq {ys ks : List Str} (p : ys.Perm ks) (h : sortedS ys = true) : ys = sortT ks :=
  perm_pw_eq (p.trans (List.mergeSort_perm ks leS).symm) (sortedS_pw h) (List.pairwise_mergeSort (le := leS) (fun a b c => leS_trans) leS_total ks)
/-- sorted(..): texts, less than 64; a dict's keys -/
def gSorted : PyData → Option SV
  | .list ds => match txts ds with
    | some ks => if ks.length < 64 then some (.lst ((sortT ks).map .str)) else none
    | none => none
  | .dict kvs => match txts (kvs.map (·.1)) with
    | some ks => if ks.length < 64 then some (.lst ((sortT ks).map .str)) else none
    | none => none
  | _ => none
/-! ### dict(pairs) -/
def keyOf : PyData → Option Key
  | .int i => some (.inl i)
  | .str x => some (.inr x)
  | _ => none
/-- what stands under each key, in the order of their first coming -/
def putD (kvs : List (PyData × PyData)) (k v : PyData) : List (PyData × PyData) := if (kvs.any fun p => decide (keyOf p.1 = keyOf k)) = true then kvs.map (fun p => if keyOf p.1 = keyOf k then (p.1, v) else p) else kvs ++ [(k, v)]
def mergeD (kvs more : List (PyData × PyData)) : List (PyData × PyData) := more.foldl (fun acc p => putD acc p.1 p.2) kvs
def pairsOf? : List PyData → Option (List (PyData × PyData))
  | [] => some []
  | .tuple [k, v] :: ds => if (keyOf k).isSome = true then (pairsOf? ds).map ((k, v) :: ·) else none
  | _ => none
def gDictOf : PyData → Option SV
  | .list ds => (pairsOf? ds).map fun ps => .dic (mergeD [] ps)
  | _ => none
variable [Tb]
theorem opn_dic {K : PySem.W.Frag} {H : Hp} {v : V} {kvs : List (PyData × PyData)} (h : Opn K H v (.dict kvs)) (hx : noX kvs = true) : ∃ (l : Addr) (ws : List (Key × V)), v = .ref l ∧ Rd H l (.dK ws) ∧ kvs.map (·.1) = ws.map fun p => kD p.1 := by
  generalize hd : PyData.dict kvs = d at h
  cases h with
  | dat i =>
    subst hd
    obtain ⟨l, o, ws, ds, ev, hf, t, ez⟩ := dic_inv i hx
    exact ⟨l, ws, ev, .inr ⟨o, hf⟩, by rw [ez]; exact kvsD_fst t.length⟩
  | lst _ _ => cases hd
  | @dic l ws ds hf t =>
    cases hd
    exact ⟨l, ws, rfl, .inl hf, kvsD_fst t.length⟩
section
variable {X : Cx} {W : WX} {as : List Nat} {pos p p1 p2 p3 p4 apos cpos : Pos}
theorem br_sorted (hc : X.calm = true) : BR X (.builtin "sorted") (g1 gSorted) := by
  intro pins s σ H xs us Q I r h
  obtain ⟨ds, sv, po, e, q⟩ := h
  unfold g1 at e
  split at e
  · cases po with | cons a t => cases t; exact (by
      unfold gSorted at e
      split at e
      · split at e
        · rename_i ks e2
          split at e
          · rename_i c
            cases e
            obtain ⟨l, vs, rfl, h1, t1⟩ := a.sql
            rw [txts_vs t1 e2] at h1
            exact cr_sortedS pins s σ H _ us Q I r ⟨_, _, rfl, h1, c, fun ys p hy hs hp => by
              rw [sortT_uniq hy hs]
              exact q _ _ (Res.lst hp IsAll.txts)⟩
          · cases e
        · cases e
      · split at e
        · rename_i kvs ks e2
          split at e
          · rename_i c
            cases e
            have hx : ∀ (z : List (PyData × PyData)), txts (z.map (·.1)) = some ks → noX z = true := fun z e2 => by
              cases z with
              | nil => rfl
              | cons p r =>
                obtain ⟨k, v⟩ := p
                cases k <;> first | rfl | cases e2
            obtain ⟨l, ws, ev, hR, eks⟩ := opn_dic a (hx _ e2)
            clear hx
            subst ev
            have ek : ws.map (·.1) = ks.map Sum.inr := by
              rw [eks] at e2
              clear eks hR q c a r
              induction ws generalizing ks with
              | nil => cases e2; rfl
              | cons w ws ih =>
                obtain ⟨k, v⟩ := w
                cases k with
                | inl i => cases e2
                | inr x =>
                  obtain ⟨ks', e3, rfl⟩ := Option.map_eq_some_iff.mp (show (txts (ws.map fun p => kD p.1)).map (x :: ·) = some ks from e2)
                  simp [ih ks' e3]
            exact call_sortedD hc pins s σ H _ us Q I r ⟨l, ws, ks, rfl, hR, ek, c, fun ys p hy hs hp => by
              rw [sortT_uniq hy hs]
              exact q _ _ (Res.lst hp IsAll.txts)⟩
          · cases e
        · cases e
      · cases e)
  · cases e
theorem keyOf_kD (k : Key) : keyOf (kD k) = some k := by cases k <;> rfl
theorem kD_keyOf {d : PyData} {k : Key} (h : keyOf d = some k) : kD k = d := by
  cases d <;> simp [keyOf] at h <;> subst h <;> rfl
theorem putD_put {K : PySem.W.Frag} {H : Hp} {ws : List (Key × V)} {ds : List PyData} (t : IsAll K H (ws.map (·.2)) ds) {k : Key} {v : V} {d : PyData} (iv : IsD K H v d) :
    ∃ ds', IsAll K H ((putK ws k v).map (·.2)) ds' ∧ putD (kvsD ws ds) (kD k) d = kvsD (putK ws k v) ds' := by
  have hk : ∀ (k' : Key), (keyOf (kD k') = keyOf (kD k)) = (k' = k) := fun k' => by rw [keyOf_kD, keyOf_kD]; simp
  have any : ((kvsD ws ds).any fun p => decide (keyOf p.1 = keyOf (kD k))) = ws.any fun kv => decide (kv.1 = k) := by
    have e := kvsD_fst t.length
    have e2 : ((kvsD ws ds).map (·.1)).any (fun x => decide (keyOf x = keyOf (kD k))) = (ws.map fun p => kD p.1).any (fun x => decide (keyOf x = keyOf (kD k))) := by rw [e]
    rw [List.any_map, List.any_map] at e2
    have e3 : (ws.any ((fun x => decide (keyOf x = keyOf (kD k))) ∘ fun p => kD p.1)) = ws.any fun kv => decide (kv.1 = k) := by
      congr 1
      funext kv
      simp only [Function.comp, hk]
    exact e2.trans e3
  unfold putD putK
  rw [any]
  by_cases c : (ws.any fun kv => decide (kv.1 = k)) = true
  · rw [if_pos c, if_pos c]
    clear any c
    induction ws generalizing ds with
    | nil => cases t; exact ⟨[], .nil, rfl⟩
    | cons w ws ih =>
      cases t with
      | @cons _ _ d0 ds0 a t =>
        obtain ⟨ds', t', e'⟩ := ih t
        by_cases q : w.1 = k
        · refine ⟨d :: ds', ?_, ?_⟩
          · simp only [List.map_cons, if_pos q]; exact .cons iv t'
          · show (if keyOf (kD w.1) = keyOf (kD k) then (kD w.1, d) else (kD w.1, d0)) :: (kvsD ws ds0).map _ = _
            rw [if_pos (by rw [hk]; exact q), e']
            simp only [List.map_cons, if_pos q]
            rfl
        · refine ⟨d0 :: ds', ?_, ?_⟩
          · simp only [List.map_cons, if_neg q]; exact .cons a t'
          · show (if keyOf (kD w.1) = keyOf (kD k) then (kD w.1, d) else (kD w.1, d0)) :: (kvsD ws ds0).map _ = _
            rw [if_neg (by rw [hk]; exact q), e']
            simp only [List.map_cons, if_neg q]
            rfl
  · rw [if_neg c, if_neg c]
    refine ⟨ds ++ [d], ?_, ?_⟩
    · rw [List.map_append]; exact t.append (.cons iv .nil)
    · unfold kvsD
      rw [List.map_append, List.zip_append (by rw [List.length_map, ← t.length, List.length_map])]
      rfl
theorem mergeD_merge {K : PySem.W.Frag} {H : Hp} : ∀ {ms : List (Key × V)} {es : List PyData} {ws : List (Key × V)} {ds : List PyData}, IsAll K H (ws.map (·.2)) ds → IsAll K H (ms.map (·.2)) es →
    ∃ ds', IsAll K H ((mergeK ws ms).map (·.2)) ds' ∧ mergeD (kvsD ws ds) (kvsD ms es) = kvsD (mergeK ws ms) ds'
  | [], _, ws, ds, t, .nil => ⟨ds, t, rfl⟩
  | m :: ms, e :: es, ws, ds, t, .cons a t2 => by
    obtain ⟨ds1, t1, e1⟩ := putD_put (k := m.1) t a
    obtain ⟨ds2, t3, e2⟩ := mergeD_merge (ws := putK ws m.1 m.2) t1 t2
    refine ⟨ds2, t3, ?_⟩
    show mergeD (putD (kvsD ws ds) (kD m.1) e) (kvsD ms es) = _
    rw [e1]
    exact e2
theorem pairsOf_inv {d : PyData} {ds : List PyData} {ps : List (PyData × PyData)} (h : pairsOf? (d :: ds) = some ps) : ∃ k x ps' k', d = .tuple [k, x] ∧ keyOf k = some k' ∧ pairsOf? ds = some ps' ∧ ps = (k, x) :: ps' := by
  cases d with
  | tuple xs =>
    match xs, h with
    | [k, x], h =>
      have h' : (if (keyOf k).isSome = true then (pairsOf? ds).map ((k, x) :: ·) else none) = some ps := h
      by_cases c : (keyOf k).isSome = true
      · rw [if_pos c] at h'
        obtain ⟨ps', e, rfl⟩ := Option.map_eq_some_iff.mp h'
        obtain ⟨k', ek⟩ := Option.isSome_iff_exists.mp c
        exact ⟨k, x, ps', k', rfl, ek, e, rfl⟩
      · rw [if_neg c] at h'; cases h'
    | [], h => cases h
    | [_], h => cases h
    | _ :: _ :: _ :: _, h => cases h
  | none => cases h
  | bool _ => cases h
  | int _ => cases h
  | str _ => cases h
  | list _ => cases h
  | dict _ => cases h
theorem key_v {K : PySem.W.Frag} {H : Hp} {v : V} {k : Key} (h : IsD K H v (kD k)) : v = kV k := by
  cases k with
  | inl i => cases h; rfl
  | inr z => cases h; rfl
theorem pair_v {K : PySem.W.Frag} {H : Hp} {v : V} {k x : PyData} {k' : Key} (ek : keyOf k = some k') (h : IsD K H v (.tuple [k, x])) : ∃ p xv, v = .ref p ∧ SqT K H p [kV k', xv] ∧ IsD K H xv x := by
  have e := kD_keyOf ek
  subst e
  generalize hd : PyData.tuple [kD k', x] = d at h
  cases h with
  | @tup p xs ds hs t =>
    cases hd
    cases t with
    | cons a t =>
      cases t with
      | cons b t =>
        cases t
        exact ⟨p, _, rfl, by rw [key_v a] at hs; exact hs, b⟩
  | _ => cases hd
/-- the pairs behind a list of pairs -/
theorem pairs_vs {K : PySem.W.Frag} {H : Hp} : ∀ {ds : List PyData} {vs : List V} {ps : List (PyData × PyData)}, IsAll K H vs ds → pairsOf? ds = some ps →
    ∃ (as : List Addr) (ms : List (Key × V)) (es : List PyData), vs = as.map V.ref ∧ Paired (fun p kv => SqT K H p [kV kv.1, kv.2]) as ms ∧ IsAll K H (ms.map (·.2)) es ∧ ps = kvsD ms es
  | [], _, ps, .nil, h => by cases h; exact ⟨[], [], [], rfl, .nil, .nil, rfl⟩
  | d :: ds, v :: vs, ps, .cons a t, h => by
    obtain ⟨k, x, ps', k', rfl, ek, e, rfl⟩ := pairsOf_inv h
    obtain ⟨as, ms, es, rfl, pa, ta, rfl⟩ := pairs_vs t e
    obtain ⟨p, xv, rfl, hs, iv⟩ := pair_v ek a
    refine ⟨p :: as, (k', xv) :: ms, x :: es, rfl, .cons hs pa, .cons iv ta, ?_⟩
    show (k, x) :: kvsD ms es = (kD k', x) :: kvsD ms es
    rw [kD_keyOf ek]
theorem br_dict (hc : X.calm = true) : BR X (.type "dict") (g1 gDictOf) := by
  intro pins s σ H xs us Q I r h
  obtain ⟨ds, sv, po, e, q⟩ := h
  unfold g1 at e
  split at e
  · cases po with | cons a t => cases t; exact (by
      unfold gDictOf at e
      split at e
      · obtain ⟨ps, e2, rfl⟩ := Option.map_eq_some_iff.mp e
        obtain ⟨l, vs, rfl, h1, t1⟩ := a.sql
        obtain ⟨as, ms, es, rfl, pa, ta, rfl⟩ := pairs_vs t1 e2
        refine call_dictP hc pins s σ H _ us Q I r ⟨l, as, ms, rfl, h1, pa, fun p hp => ?_⟩
        obtain ⟨ds', t', e'⟩ := mergeD_merge (ws := []) (ds := []) .nil ta
        refine q _ _ ⟨Kp.new hp, [p], ?_, by simp, fun a ha => by simp at ha; subst ha; exact hp⟩
        have e3 : mergeD [] (kvsD ms es) = kvsD (mergeK [] ms) ds' := e'
        rw [e3]
        have sy : Stays H (upd H p (.dK (mergeK [] ms))) := (Kp.new (O := []) hp).stays fun b hb => by simp at hb
        exact Ent.dic upd_same (t'.stays sy)
      · cases e)
  · cases e
end
end Ev

/-! D20: the drawing's state made. -/
namespace Ev
open PySem PySem.Spec L2
open PyProof.Rows hiding St
variable [Tb]

def intsD : List PyData → Option (List Int)
  | [] => some []
  | .int i :: ds => (intsD ds).map (i :: ·)
  | _ => none
def eSrcNew (mc mm : M Opd) : M Opd := bnd mc fun o => bnd mm fun o' δ => match o, o' with
  | .val (.lst ds), .val (.dat (.int n)) => match intsD ds with
    | some cs => .ok (.val (.src ⟨cs, 1, n, 0⟩)) δ
    | none => .bad
  | _, _ => .bad
theorem ints_vs {K : PySem.W.Frag} {H : Hp} : ∀ {ds : List PyData} {vs : List V} {bs : List Int}, IsAll K H vs ds → intsD ds = some bs → vs = bs.map V.int
  | [], _, bs, .nil, h => by cases h; rfl
  | d :: ds, _, bs, .cons a t, h => by
    cases d with
    | int b =>
      obtain ⟨bs', e, rfl⟩ := Option.map_eq_some_iff.mp (show (intsD ds).map (b :: ·) = some bs from h)
      cases a
      rw [ints_vs t e]; rfl
    | _ => cases h
theorem Ent.lst_own {K : PySem.W.Frag} {H : Hp} {a : Addr} {ds : List PyData} {o : List Addr} (h : Ent K H (V.ref a, SV.lst ds) o) : o = [a] := by cases h; rfl
theorem Ent.dic_own {K : PySem.W.Frag} {H : Hp} {a : Addr} {z : List (PyData × PyData)} {o : List Addr} (h : Ent K H (V.ref a, SV.dic z) o) : o = [a] := by
  generalize hz : (V.ref a, SV.dic z) = e at h
  cases h with
  | dic _ _ => cases hz; rfl
  | _ => cases hz
section
variable {X : Cx} {W : WX} {as : List Nat} {pos p p1 p2 p3 p4 apos cpos : Pos}
theorem merge_src {S : Src} {c : Addr} : mergeK [] (kvsS S c) = kvsS S c := by
  obtain ⟨k1, k2, k3, k4, k5, k6⟩ := sk
  simp [mergeK, kvsS, putK, k1, k1.symm, k2, k2.symm, k3, k3.symm, k4, k4.symm, k5, k5.symm, k6, k6.symm]
theorem se_srcNew {e1 e2 : Expr} {mc mm : M Opd} {j1 j2 j3 j4 j5 j6 : Nat} {q1 q2 q3 q4 q5 q6 : Pos} (h1 : SE X W e1 mc) (h2 : SE X W e2 mm) :
    SE X W (.Dict [some (.Constant (.str "cells") j1 q1), some (.Constant (.str "left") j2 q2), some (.Constant (.str "mixed") j3 q3), some (.Constant (.str "turn") j4 q4)] [e1, .Constant (.int 1) j5 q5, e2, .Constant (.int 0) j6 q6] pos) (eSrcNew mc mm) :=
  (pe_disp (pps_cons pe_str h1 (pps_cons pe_str pe_int (pps_cons pe_str h2 (pps_cons pe_str pe_int pps_nil)))) rfl rfl (by simp) (by simp)).imp fun σ H Q h => by
    obtain ⟨H0, O0, T, δ, st, hm⟩ := h
    intro p hp
    have r0 : Res X.K H (.ref p) (.dic []) (upd H p (.dK [])) := ⟨Kp.new hp, [p], Ent.dic (kvs := []) (ds := []) upd_same .nil, by simp, fun a ha => by simp at ha; subst ha; exact hp⟩
    have st0 := st.res r0
    refine ⟨H0, O0, _, δ, st0, ?_⟩
    unfold eSrcNew bnd at hm
    cases e1 : mc δ with
    | bad => simp only [e1] at hm
    | exn x δ1 => simp only [e1] at hm; exact fun cls d H' a b => hm cls d H' a b.drop1
    | ok o δ1 =>
      simp only [e1] at hm
      intro v H1 ov st1
      show tE X.K W mm σ H1 _
      refine ⟨H0, O0, _, δ1, st1, ?_⟩
      cases e2 : mm δ1 with
      | bad => simp only [e2] at hm
      | exn x δ2 => simp only [e2] at hm; exact fun cls d H' a b => hm cls d H' a b.drop.drop1
      | ok o' δ2 =>
        simp only [e2] at hm
        intro w H2 ow st2
        cases o with
        | slot i => exact hm.elim
        | val s =>
          cases s with
          | lst ds =>
            cases o' with
            | slot i => exact hm.elim
            | val s' =>
              cases s' with
              | dat d =>
                cases d with
                | int n =>
                  simp only at hm
                  cases e3 : intsD ds with
                  | none => simp only [e3] at hm
                  | some cs =>
                    simp only [e3] at hm
                    have st3 : Ste X.K H0 O0 σ H2 δ2 ([(v, SV.lst ds), (V.ref p, SV.dic [])] ++ T) := Ste.drop1 (by simpa [tmp] using st2)
                    obtain ⟨ow', enw⟩ := st2.ent (e := (w, SV.dat (.int n))) (by simp [tmp])
                    have ew : w = .int n := by cases enw with | dat i => cases i; rfl
                    subst ew
                    obtain ⟨o1, en1⟩ := st3.ent (e := (v, SV.lst ds)) (by simp)
                    obtain ⟨o2, en2⟩ := st3.ent (e := (V.ref p, SV.dic [])) (by simp)
                    have hpp : H2 p = some (.dK []) := by
                      generalize hz : ([] : List (PyData × PyData)) = z at en2
                      generalize hv : V.ref p = pv at en2
                      cases en2 with
                      | @dic a kvs ds2 h3 t3 =>
                        cases hv
                        have l := t3.length
                        cases kvs with
                        | nil => exact h3
                        | cons kv kvs =>
                          cases ds2 with
                          | nil => simp at l
                          | cons d2 ds2 => cases hz
                    cases en1 with
                    | @lst c vs _ hc tc =>
                      have evs := ints_vs tc e3
                      subst evs
                      refine ⟨hpp, kvsS ⟨cs, 1, n, 0⟩ c, rfl, by simp [kvsS], ?_⟩
                      rw [merge_src]
                      refine hm _ _ True.intro ?_
                      refine Ste.step (Tc := [(V.ref c, SV.lst ds), (V.ref p, SV.dic [])]) (Tn := [(V.ref p, SV.src ⟨cs, 1, n, 0⟩)]) st3 fun oc hoc nd => ?_
                      cases hoc with
                      | cons c1 r1 =>
                        cases r1 with
                        | cons c2 r2 =>
                          cases r2
                          have q1 := c1.lst_own
                          have q2 := c2.dic_own
                          subst q1 q2
                          have hne : c ≠ p := by rintro rfl; rw [hc] at hpp; cases hpp
                          exact ⟨[p, c] ++ [], Ents.cons (Ent.src (S := ⟨cs, 1, n, 0⟩) upd_same (by rw [upd_ne hne]; exact hc)) .nil, by simp [hne.symm], fun a ha => by simp at ha; left; simp; rcases ha with h | h <;> simp [h], Kp.at (by simp)⟩
                | _ => exact hm.elim
              | _ => exact hm.elim
          | _ => exact hm.elim
end
end Ev

/-! D21: an own exception over ValueError whose __init__ says super().__init__(x); self.x = x. -/
namespace Ev
open PySem PySem.Spec PySem.W PySem.Calls PySem.HandSPX
open PyProof.Rows hiding St
variable [Tb]

abbrev veB : List Value := [.type "ValueError", .type "Exception", .type "BaseException", .type "object"]
/-- the function object of such an __init__ -/
structure ExI (F : Str) (K : Frag) (fI cc cda : Addr) : Prop where
  ex : ∃ (qual : Str) (params : Arguments) (scope : Scope) (kV doc pm : Value) (an : Option Addr) (ct oc : Value) (od : Option Addr) (osl : Array (Option Value)) (ar : Arg) (k : Nat) (p0 p1 p2 p3 p4 p5 p6 p7 p8 p9 : Pos),
    K.lookup fI = some ⟨oc, od, .func (ksFn "__init__" qual params
      [.Expr (.Call (.Attribute (.Call (.Name "super" p0) [] [] p1) "__init__" p2) [.Name F p3] [] p4) p5, .Assign [.Attribute (.Name "self" p6) F p7] (.Name F p8) p9] scope .none kV doc pm an (.ref cda) ct cc), osl⟩ ∧
    codeIn K (.ref cda) qual = true ∧ (params.posonlyargs ++ params.args).head? = some ar ∧ ar.arg = "self" ∧
    (∀ (s : Shared) (a b : Value), BindsTo s (ksFn "__init__" qual params
      [.Expr (.Call (.Attribute (.Call (.Name "super" p0) [] [] p1) "__init__" p2) [.Name F p3] [] p4) p5, .Assign [.Attribute (.Name "self" p6) F p7] (.Name F p8) p9] scope .none kV doc pm an (.ref cda) ct cc) ⟨[a, b], []⟩ [("self", a), (F, b)]) ∧
    scope.kind = .function ∧ scope.isCoroutine = false ∧ scope.isGenerator = false ∧ (∀ x ∈ scope.names, x.2 ≠ .cell) ∧ scope.names.lookup ("self" : Str) = some .local ∧ scope.names.lookup F = some .local ∧
    scope.names.lookup ("__class__" : Str) = some .free ∧ scope.names.lookup ("super" : Str) = some .globalImplicit ∧ (p2.endLine == p4.line) = true
structure ExT (prog : Program) (F : Str) (K : Frag) (C fI cc cda : Addr) : Prop where
  ini : excInitIn K C veB "ValueError.__new__" = true
  find : findIn K (.ref C) "__init__" = some (some (.ref fI))
  isf : isFn K (.ref fI) = true
  fn : ExI F K fI cc cda
  code : ∃ (ccl : Value) (cdd : Option Addr) (vs : Array Value) (ccs : Array (Option Value)) (file : Str) (tf : Tok), K.lookup cda = some ⟨ccl, cdd, .fields vs, ccs⟩ ∧ vs[2]? = some (.str file tf) ∧ ((prog.main.file : Str) == file) = true
  cell : ∃ (cl : Value) (cld : Option Addr) (csl : Array (Option Value)), K.lookup cc = some ⟨cl, cld, .cell (some (.ref C)), csl⟩
  cls : ∃ cd, clsIn K C = some cd ∧ refsVE cd.mro = true ∧ cd.hasDict = true
  sub : mroIn K C (.ref C) = some true
  top : (prog.main.scope.names.lookup ("super" : Str)).isSome = false
  opq : nsIn K cStatics "thirdparty.any" = some none
  alg : ks_superIn K C C "__init__" = some (some (.builtin "ValueError.__init__"))
  base : subIn K (.ref C) (.type "ValueError") = some true
  sa : findIn K (.ref C) "__setattr__" = some (some (.builtin "object.__setattr__"))
  noF : findIn K (.ref C) F = some none
  fs : F ≠ "self" ∧ (F == ("__debug__" : Str)) = false

section
variable {prog : Program} {w : World} {A : Around} {R : Result → Shared → Prop} {s : Shared} {K : Frag} {mg mb : Str → Option Value} {F : Str} {C fI cc cda : Addr}
theorem look_self {F : Str} {e v : Value} (h : F ≠ "self") : ([((("self" : Str)), e), (F, v)].reverse.lookup ("self" : Str)) = some e := by
  have : (("self" : Str) == F) = false := by simpa using h.symm
  simp [List.lookup, this]
theorem look_F {F : Str} {e v : Value} : ([((("self" : Str)), e), (F, v)].reverse.lookup F) = some v := by
  simp [List.lookup]
theorem ex_init (T : ExT prog F K C fI cc cda) {hp : Heap} {g : Array GenState} {d : Drawn} {tk : Nat} {os : OsState} {e t : Addr} {v : Value} {h0 : Heap} (X : K.In hp) (G : hp.Ns mainGlobals mg) (hsup : mg "super" = none) (B : hp.Ns builtinsNs mb) (hb : ∀ x : Str, x ≠ "__name__" → mb x = bootBuiltins x)
    (lim : hp.NoLimit) (k0 : ∀ b o, hp.get? b = some o → h0.get? b = some o) (he : h0.get? e = some (excObj C t none .none)) (ne : hp.get? e = none) (hsz : hp.objs.size ≤ h0.objs.size) (room : A.depth < recursionLimit)
    (hq : ∀ h' tk' dx t', (∀ b o, hp.get? b = some o → h'.get? b = some o) → h'.get? e = some (excObj C t' (some dx) .none) → h0.objs.size ≤ dx → dx ≠ e → h'.Ns1 dx (fun y => if y = F then some v else none) → R (.ok (.ret .none)) ⟨h', g, d, tk', os⟩) :
    codeAny (model prog w) A (.call (.ref fI) ⟨[.ref e, v], []⟩) R ⟨h0, g, d, tk, os⟩ := by
  obtain ⟨qual, params, scope, kV, doc, pm, an, ct, oc, od, osl, ar, k, p0, p1, p2, p3, p4, p5, p6, p7, p8, p9, lk, hcd, har, hself, hbind, s1, s2, s3, s4, s5, s6, s7, s8, hline⟩ := T.fn.ex
  obtain ⟨ccl, cdd, vs, ccs, file, tf, lc, hvs, hfile⟩ := T.code
  obtain ⟨cl, cld, csl, lcell⟩ := T.cell
  obtain ⟨cd, hcls, hve, hdict⟩ := T.cls
  have X0 : K.In h0 := X.keeps k0
  obtain ⟨fs1, fs2⟩ := T.fs
  refine ks_codeAny_call_defAt (fd := ksFn "__init__" qual params _ scope .none kV doc pm an (.ref cda) ct cc) (binds := [("self", .ref e), (F, v)]) room (X0 _ _ lk) rfl (lim.keeps k0) (codeRec_of X0 hcd) rfl (hbind _ _ _) s4 (fun x hx => ?_) (fun h₁ hns hk₁ => ?_) s2 s3 s1
  · simp at hx
    rcases hx with rfl | rfl
    · exact s5
    · exact s6
  · have L0 : h0.objs.size ≠ e := Nat.ne_of_gt (Heap.lt_size he)
    have F1 : Fr hp h0.objs.size h₁ (fun y => [((("self" : Str)), Value.ref e), (F, v)].reverse.lookup y) := ⟨hns, fun b o q => hk₁ b o (k0 b o q), hsz⟩
    have N1 : News hp h0.objs.size h₁ [(e, excObj C t none .none)] := fun p hp' => by
      simp at hp'
      subst hp'
      exact ⟨hk₁ _ _ he, L0.symm, ne⟩
    show _root_.PySem.wpAt _ _ _ (execs _ (ksEnv qual scope h0.objs.size fI (.ref cda) cc)) _ _ _
    have hi : interactive (ksEnv qual scope h0.objs.size fI (.ref cda) cc) = false := by
      unfold interactive
      show (scope.kind == .module && _) = false
      rw [s1]; rfl
    refine ks_wpAt_execs_cons (ks_wpAt_Expr_any ?_ hi rfl)
    refine ks_wpAt_MethodCall (pl := L2.plainOf (.Call (.Name "super" p0) [] [] p1) (ksEnv qual scope h0.objs.size fI (.ref cda) cc)) ?_ ?he
    case he =>
      rw [arm_eval_Call]
      congr 1
      funext ov
      congr 1
      funext _
      exact L2.mcall_line rfl hline
    have X1 : K.In h₁ := X.keeps F1.keep
    obtain ⟨oD, hD1, hD2⟩ : ∃ oD, h₁.get? C = some oD ∧ oD.data = .cls cd := by
      unfold clsIn at hcls
      split at hcls
      · rename_i c d cd' sl ho
        cases hcls
        exact ⟨_, X1 _ _ ho, rfl⟩
      · cases hcls
    have I1 : InstAt h₁ e (excObj C t none .none) C none := ⟨hk₁ _ _ he, rfl, rfl, trivial⟩
    refine ks_wpAt_super_base (env := ksEnv qual scope h0.objs.size fI (.ref cda) cc) s8 s7 (by decide) rfl (X1 _ _ lk) rfl har rfl (X1 _ _ lc) rfl hvs hfile T.top ?_
    refine ks_loadName_global s1 s8 (loadGlobal_builtin (env := ksEnv qual scope h0.objs.size fI (.ref cda) cc) (G.keeps F1.keep) hsup (B.keeps F1.keep) ((hb _ (by decide +kernel)).trans (by kernel_rfl : bootBuiltins "super" = some (.type "super"))) ⟨rfl, ?_⟩)
    refine wpAny_loadName_free s1 s7 rfl ⟨_, X1 _ _ lcell, rfl⟩ ?_
    rw [hself]
    refine wpAny_loadName_local s1 s5 F1.ns (look_self fs1) ?_
    refine ks_wpAny_isType_cls hD1 hD2 ⟨rfl, ?_⟩
    refine ks_wpAny_call_super hD1 hD2 I1.at_ I1.cls (fun c q => by cases q) (looks_mroIn X1 T.sub) (fun h2 hso k2 => ?_)
    obtain ⟨F2, N2, l2⟩ := ks_newsPush (s := ⟨h₁, g, d, tk + 2, os⟩) F1 N1 rfl hso k2
    have I2 : InstAt h2 e (excObj C t none .none) C none := ⟨k2 _ _ I1.at_, rfl, rfl, trivial⟩
    refine kxs_method (s := ⟨h2, g, d, _, os⟩) kxs_ValueError F2 X N2 List.mem_cons_self I2 T.opq T.alg T.base (by decide) (fun q h3 F3 N3 l3 => ?_)
    refine kxs_callWith1 (x := e) (u := q) N3 List.mem_cons_self ?_
    refine Calls.spliced_cons (ESX.ldL (m := _) F3.ns look_F (Calls.spliced_nil ⟨kxs_at N3 List.mem_cons_self, ?_⟩) s1 s6 fs2)
    have q1 : e < q := l3 (e, excObj C t none .none) (by simp)
    have q2 : e < h₁.objs.size := l2 (e, excObj C t none .none) (by simp)
    refine kxs_call (t := t) (dv := none) (c2 := .none) (nw := fun o => [(q, kxs_mw "ValueError.__init__" e), (h₁.objs.size, ks_superObj C e C), (e, o)]) F3 X N3 PySem.F.excBase_ValueError T.ini List.mem_cons_self (.tail (Nat.ne_of_gt q1) (.tail (Nat.ne_of_gt q2) (.head (fun _ z => by cases z)))) (by show 1 ≤ sizeLine; rw [sizeLine_eq]; omega) (fun t' h4 F4 N4 l4 => ?_)
    have e4 : h4.get? e = some (excO C t') := (N4 (e, excObj C t' none .none) (by simp)).1
    have X4 : K.In h4 := X.keeps F4.keep
    show _root_.PySem.wpAt _ _ _ (execs _ (ksEnv qual scope h0.objs.size fI (.ref cda) cc)) _ _ _
    refine wpAt_of_wpAny (wpAny_execs_cons (plainObj_wpAny_Assign_Attribute ?_))
    refine ESX.ldL F4.ns look_F (ESX.ldL F4.ns (look_self fs1) ?_ s1 s5 (by decide)) s1 s6 fs2
    refine set_plain X4 (ox := excO C t') (od := none) ⟨e4, rfl, rfl, trivial⟩ T.sa ?_
    refine exc_osa X4 e4 hcls hve hdict T.noF (fun h5 tk5 dx k5 dn dne hx5 hn5 => ?_)
    show wpAny _ _ (execs _ _) _ _ _
    refine wpAny_execs_nil (hq h5 _ dx t' (fun b o q => k5 b o (fun z => by rw [z, ne] at q; cases q) (F4.keep b o q)) hx5 (Nat.le_trans (Nat.le_of_lt F4.ns.lt) dn) dne hn5)
/-- what such a class made leaves -/
structure ExMade (hp h' : Heap) (e C d : Addr) (F : Str) (v : Value) : Prop where
  keep : ∀ b o, hp.get? b = some o → h'.get? b = some o
  new : hp.objs.size ≤ e
  obj : ∃ t, h'.get? e = some (excObj C t (some d) .none)
  dbig : hp.objs.size ≤ d
  dne : d ≠ e
  ns : h'.Ns1 d (fun y => if y = F then some v else none)
theorem ex_made (T : ExT prog F K C fI cc cda) {v : Value} (X : K.In s.heap) (G : s.heap.Ns mainGlobals mg) (hsup : mg "super" = none) (B : s.heap.Ns builtinsNs mb) (hb : ∀ x : Str, x ≠ "__name__" → mb x = bootBuiltins x) (lim : s.heap.NoLimit) (room : A.depth + 1 < recursionLimit)
    (hq : ∀ h' tk e d, ExMade s.heap h' e C d F v → R (.ok (.ret (.ref e))) { s with heap := h', toks := tk }) : codeAny (model prog w) A (.call (.ref C) ⟨[v], []⟩) R s := by
  obtain ⟨hp, g, dr, tk, os⟩ := s
  obtain ⟨nm, N', qn, bs, bm, hdct, sn, sub, ab, col, dd, k0, k1, k2, k3, k5, hC, hT⟩ := excInit_of X T.ini
  obtain ⟨oI, hoI, hcI⟩ : ∃ oI, hp.get? fI = some oI ∧ oI.cls = .type "function" := by
    obtain ⟨o, ho, hc⟩ := Option.map_eq_some_iff.mp (show (K.lookup fI).map (·.cls) = some (.type "function") from beq_iff_eq.mp T.isf)
    exact ⟨o, X _ _ ho, hc⟩
  have k : ∀ b o, hp.get? b = some o → ((hp.push (kdv_tup [v])).push (excO C hp.objs.size)).get? b = some o := fun b o e => Heap.get?_push_of_some _ (Heap.get?_push_of_some _ e)
  have hget : ((hp.push (kdv_tup [v])).push (excO C hp.objs.size)).get? (hp.objs.size + 1) = some (excO C hp.objs.size) := by heap_get
  have ne : hp.get? (hp.objs.size + 1) = none := by
    cases z : hp.get? (hp.objs.size + 1) with
    | none => rfl
    | some o => exact absurd (Nat.lt_of_succ_lt (Heap.lt_size z)) (Nat.lt_irrefl _)
  refine PySem.HandSPX.call_own PySem.F.excBase_ValueError hT hC (looks_findIn X T.find) (fun self => exc_bind hoI hcI self) (by show 1 ≤ sizeLine; rw [sizeLine_eq]; omega) ?_
  refine ex_init (h0 := (hp.push (kdv_tup [v])).push (excO C hp.objs.size)) T X G hsup B hb lim k hget ne ?_ ?_ fun h' tk' dx t' k' he hdx hne hns => ?_
  · rw [Heap.size_push, Heap.size_push]; exact Nat.le_trans (Nat.le_succ _) (Nat.le_succ _)
  · exact room
  · refine ⟨rfl, hq h' tk' _ dx ⟨k', Nat.le_succ _, ⟨t', he⟩, ?_, hne, hns⟩⟩
    rw [Heap.size_push, Heap.size_push] at hdx
    exact Nat.le_trans (Nat.le_trans (Nat.le_succ _) (Nat.le_succ _)) hdx
end
end Ev

/-! D22: such an exception raised. -/
namespace Ev
open PySem PySem.Spec L2
open PyProof.Rows hiding St
variable [Tb]

/-- what is known of an own exception class: its name, its field -/
structure ExK (prog : Program) (K : PySem.W.Frag) (mg : Str → Option Value) (x F : Str) : Prop where
  ex : ∃ C fI cc cda, ExT prog F K C fI cc cda ∧ mg x = some (.ref C) ∧ PySem.W.nsIn K mainGlobals x = some (some (.ref C)) ∧ PySem.W.keepIn K (.ref C) = true ∧ PySem.W.subIn K (.ref C) (.type "BaseException") = some true ∧ PySem.W.typeIn K (.ref C) = some (.type "type")
/-- raise x(e) -/
def sRaise (x F : Str) (m : M Opd) : M Flw := bnd m fun o => bnd (takeD o) fun d δ => .exn ⟨x, [(F, d)]⟩ δ
theorem relO_one {F : Str} {v : V} {v' : Value} (r : RelV v v') (f : Str) : RelO (List.lookup f [(F, v)]) (if f = F then some v' else none) := by
  by_cases h : f = F
  · subst h
    rw [if_pos rfl]
    have e : List.lookup f [(f, v)] = some v := by simp [List.lookup]
    rw [e]
    exact r
  · rw [if_neg h]
    have : (f == F) = false := by simpa using h
    simp [List.lookup, this]
    trivial
section
variable {X : Cx} {W : WX} {as : List Nat} {pos p p1 p2 p3 p4 pos2 : Pos}
def tMkX (C : Addr) (F : Str) (ta : TA) : St → Hp → XK → Prop := fun σ H Q => ta σ H fun vs H1 => ∃ v, vs = [v] ∧ ∀ d, H1 d = none → Q (.ref C) (some d) (upd H1 d (.xd [(F, v)]))
theorem pmk_ex {x F : Str} {C fI cc cda : Addr} {k : Nat} {a : Expr} {ta : TA} (T : ExT X.prog F X.K C fI cc cda) (gC : X.mg x = some (.ref C)) (kC : PySem.W.keepIn X.K (.ref C) = true) (b1 : PySem.W.subIn X.K (.ref C) (.type "BaseException") = some true) (b2 : PySem.W.typeIn X.K (.ref C) = some (.type "type"))
    (sup : X.mg "super" = none) (hr : Room k X.A) (ha : PA X [a] ta) (hg : Gl X x) (hdb : (x == ("__debug__" : Str)) = false) (hp : plainE a = true) : PMk X (.Call (.Name x p) [a] [] pos) (tMkX C F ta) := by
  intro pins s σ H Q I h
  refine wpAny_Call_Name_kw (ld_glob I hg gC ?_ hdb)
  refine PySem.W.callWith_K (h₀ := X.base) I.ok.mod.kin kC (thn (ha.run pos pins s σ H _ I h) fun us s1 hh => ?_) (star_plain hp _ _) rfl
  obtain ⟨vs, H1, I1, r1, v, rfl, q1⟩ := hh
  refine ⟨I1.kIn, ?_⟩
  cases r1 with
  | cons rv rn =>
    rename_i v' us'
    cases rn
    show wpAny _ _ (call (.ref C) [v']) _ _ _
    obtain ⟨mb, hB, hbb⟩ := I1.mod.blt
    have hlim := I1.nolimit
    obtain ⟨hp', g, dr, tk, os⟩ := s1
    refine wpAny_call (ex_made T I1.kIn (I1.mod.glob.keeps I1.bk) sup (hB.keeps I1.bk) hbb hlim (by have := hr.dp; omega) fun h' tk' e d M => ?_)
    obtain ⟨t, hoe⟩ := M.obj
    obtain ⟨G', g1, g2⟩ := restrict h' fun b => decide (b ≠ e)
    have gk : ∀ b, b ≠ e → G'.get? b = h'.get? b := fun b hb => g1 b (decide_eq_true hb)
    have ge : G'.get? e = none := g2 e (by simp)
    have old : ∀ b o, hp'.get? b = some o → G'.get? b = some o := fun b o q => (gk b (Nat.ne_of_lt (Nat.lt_of_lt_of_le (Heap.lt_size q) M.new))).trans (M.keep b o q)
    have ob : ObjOk X.prog X.w (upd H1 d (.xd [(F, v)])) G' d (.xd [(F, v)]) := ⟨_, M.ns.at (fun o q => (gk d M.dne).trans q), fun f => relO_one rv f⟩
    have J : Inv X pins σ (upd H1 d (.xd [(F, v)])) ⟨G', g, dr, tk', os⟩ := I1.laid (t' := tk') old M.dbig ob
    refine ⟨e, _, _, ⟨G', g, dr, tk', os⟩, _, .ref C, some d, rfl, J, fun b o q => ?_, ge, hoe, ⟨rfl, rfl⟩, rfl, rfl, ?_, rfl, I1.bare, raises_own b1 b2, q1 d (I1.hok.fresh M.dbig)⟩
    · by_cases hb : b = e
      · have q' : G'.get? b = some o := q
        rw [hb, ge] at q'; cases q'
      · exact (gk b hb).symm.trans q
    · rw [upd_ne (Ne.symm M.dne)]
      exact I1.hok.fresh M.new
theorem ss_raise {x F : Str} {k : Nat} {a : Expr} {m : M Opd} (T : ExK X.prog X.K X.mg x F) (sup : X.mg "super" = none) (hc : X.calm = true) (tk : Takes X W) (hr : Room k X.A) (ha : SE X W a m) (hg : Gl X x) (hdb : (x == ("__debug__" : Str)) = false) (hp : plainE a = true) :
    SS X W as (.Raise (some (.Call (.Name x p) [a] [] pos)) none pos2) (sRaise x F m) := by
  obtain ⟨C, fI, cc, cda, T1, gC, nC, kC, b1, b2⟩ := T.ex
  refine (ps_raise hc tk (pmk_ex T1 gC kC b1 b2 sup hr (pa_cons ha pa_nil (star_plain hp _ _)).gh hg hdb hp)).imp fun D σ H h => ?_
  obtain ⟨σ0, H0, O0, T0, δ, ap, st, hm⟩ := h
  show tE X.K W m σ H _
  refine ⟨H0, O0, T0, δ, st, ?_⟩
  unfold sRaise bnd at hm
  cases e1 : m δ with
  | bad => simp only [e1] at hm; exact hm
  | exn y δ1 => simp only [e1] at hm; exact fun cls d H' a b => hm cls d σ H' ap a b
  | ok o δ1 =>
    simp only [e1] at hm
    intro v H1 ov st1
    cases e2 : takeD o δ1 with
    | bad => simp only [e2] at hm; exact hm.elim
    | exn y δ2 => exact absurd e2 takeD_noexn
    | ok d δ2 =>
      simp only [e2] at hm
      refine takeD_gh ov st1 e2 fun H2 _ st2 iv => ⟨v, rfl, fun dd hd => ?_⟩
      have sy : Stays H2 (upd H2 dd (.xd [(F, v)])) := (Kp.new (O := []) hd).stays fun b hb => by simp at hb
      refine hm (.ref C) (some dd) σ _ ap ⟨C, rfl, nC, .inr ⟨dd, [(F, v)], [d], rfl, upd_same, .cons (iv.stays sy) .nil, rfl⟩⟩ ?_
      exact Ste.step (Tc := []) (Tn := []) st2 fun oc hc nd => by
        cases hc
        exact ⟨[], .nil, List.nodup_nil, (fun a ha => by simp at ha), Kp.new hd⟩
end
end Ev

/-! D23: try .. except X as e: return (text, e.f). -/
namespace Ev
open PySem PySem.Spec L2
open PyProof.Rows hiding St
variable [Tb]

/-- an own exception class that is caught, and whose field is read -/
structure ExC (K : PySem.W.Frag) (mg : Str → Option Value) (x F : Str) : Prop where
  ex : ∃ C, mg x = some (.ref C) ∧ PySem.W.nsIn K mainGlobals x = some (some (.ref C)) ∧ PySem.W.exmOne K (.ref C) (.ref C) = some true ∧ XfC K C ∧ PySem.W.findIn K (.ref C) F = some none
/-- try: body; except x as ..: return (c, it.F) -/
def sTryRet (x F : Str) (i : Nat) (c : PyData) (mb : M Flw) : M Flw := fun δ => match mb δ with
  | .exn e δ1 => if e.cls = x ∧ i < δ1.length then match e.fs.lookup F with
      | some d => .ok (.rt (.dat (.tuple [c, d]))) δ1
      | none => .bad
    else .bad
  | r => r
theorem lookup_zip {K : PySem.W.Frag} {H : Hp} {F : Str} {d : PyData} : ∀ {fs : List (Str × V)} {ds : List PyData}, IsAll K H (fs.map (·.2)) ds → ((fs.map (·.1)).zip ds).lookup F = some d → ∃ v, fs.lookup F = some v ∧ IsD K H v d
  | [], _, _, h => by simp at h
  | f :: fs, e :: ds, .cons a t, h => by
    obtain ⟨f1, f2⟩ := f
    simp only [List.map_cons, List.zip_cons_cons, List.lookup] at h ⊢
    by_cases q : (F == f1) = true
    · simp only [q] at h ⊢
      cases h
      exact ⟨f2, rfl, a⟩
    · have q' : (F == f1) = false := by simpa using q
      simp only [q'] at h ⊢
      exact lookup_zip t h
section
variable {X : Cx} {W : WX} {as : List Nat} {pos pos' np p1 p2 p3 p4 p5 : Pos}
theorem ss_tryRet {x n F : Str} {i : Nat} {body : List Stmt} {mb : M Flw} {z : Str} {k k2 : Nat} (hs : X.stack = X.env :: X.outer) (hf : X.env.frame = some X.env.locals) (hN : X.N.Nodup) (hi : X.N[i]? = some n) (hln : X.env.kindOf n = some .local) (T : ExC X.K X.mg x F) (hg : Gl X x) (hd : (x == ("__debug__" : Str)) = false) (tk : Takes X W)
    (hdn : (n == ("__debug__" : Str)) = false) (hcn : (n == ("__classdict__" : Str)) = false)
    (hb : ∀ (W' : WX) (pn : List (Addr × Obj)) (xe : Value → Shared → Prop), Takes (X.tr pn xe) W' → PassesOwn (model X.prog X.w) X.A X.env xe → SSs (X.tr pn xe) W' as body mb)
    (hbase : ∀ (env : Env), attributeBase (.Name n p1) F env (eval (.Name n p1) env) = eval (.Name n p1) env) :
    SS X W as (.Try body [.ExceptHandler (some (.Name x np)) (some n) [.Return (some (.Tuple [.Constant (.str z) k p3, .Attribute (.Name n p1) F p2] k2 p4)) p5] pos'] [] [] pos) (sTryRet x F i (.str z) mb) := by
  obtain ⟨C, gC, nC, exm, XF, hno⟩ := T.ex
  refine (ps_try_as (i := i) (c := .ref C) (tb := fun W' => tS X.K W' as mb) (ts := fun a cls d => tRet (tTup (tCons (tC (.str z)) (tCons (tXf a cls d C F (tVar i)) tNil)))) (Wout := W) hs hf hN hi hln ⟨hg, hd, .inl gC⟩ tk hb (fun a oe cls d pn hz hfs => ?_)).imp fun D σ H h => ?_
  · exact pss_one (ps_ret (pe_tup (pa_cons pe_str (pa_cons (pe_xf XF hno hz hfs (pe_var (X := X.suite a ((a, oe) :: pn)) hi (.inl hln) hdn hcn) (hbase _)) pa_nil))))
  · obtain ⟨σ0, H0, O0, T0, δ, ap, st, hm⟩ := h
    refine ⟨σ0, H0, O0, T0, δ, ap, st, ?_⟩
    unfold sTryRet at hm
    cases e1 : mb δ with
    | bad => simp only [e1] at hm; exact hm
    | ok f δ1 =>
      simp only [e1] at hm
      cases f <;> exact hm
    | exn e δ1 =>
      simp only [e1] at hm
      by_cases hx : e.cls = x ∧ i < δ1.length
      · simp only [if_pos hx] at hm
        cases e2 : e.fs.lookup F with
        | none => simp only [e2] at hm; exact hm.elim
        | some dd =>
          simp only [e2] at hm
          intro cls d σ' H' ap' ex st'
          obtain ⟨C', ec, n', fld⟩ := ex
          rw [hx.1, nC] at n'
          cases n'
          subst ec
          refine ⟨true, exm, fun _ a na => ?_, fun z => by cases z⟩
          rcases fld with ⟨_, hnil⟩ | ⟨da, fs, ds, rfl, hda, hall, hfs⟩
          · rw [hnil] at e2; cases e2
          · rw [hfs] at e2
            obtain ⟨v, lv, iv⟩ := lookup_zip hall e2
            have li : i < σ'.length := by
              obtain ⟨L, zz, _⟩ := st'
              rw [zz.length]; exact hx.2
            refine ⟨_, ?_, rfl, rfl, da, fs, v, rfl, hda, lv, ?_⟩
            · rw [List.getElem?_set_self li]
            · refine ⟨by show 2 ≤ sizeLine; rw [sizeLine_eq]; omega, fun p hp => ?_⟩
              exact hm (.ref p) σ' _ ap' (st'.res (Res.tup hp (.cons (.str z) (.cons iv .nil))))
      · simp only [if_neg hx] at hm
        exact hm.elim
end
end Ev

/-! D24: a head's hook that also sees the interpreter's settings; facts of own exception classes. -/
namespace Hz
open PySem PySem.Spec PyProof.Rows L2 He

def asZ (g : Addr → Option Obj) : Nat → List Addr
  | 0 => [mainGlobals, cStatics]
  | n + 1 => growD g (asZ g n)
def asY (g : Addr → Option Obj) (n : Nat) : List Addr := asZ g n ++ [sysModules]
/-- what is observed of such an __init__: all but addresses -/
abbrev FnS : Type := Option (Str × Str × Arguments × FuncBody × Scope × Addr × List Str × Value × Addr)
def fnS (K : PySem.W.Frag) (f : Addr) : FnS := match K.lookup f with
  | some ⟨_, _, .func fd, _⟩ => some (fd.name, fd.qualname, fd.params, fd.body, fd.scope, fd.globals, fd.closure.map (·.1), fd.defaults, fd.builtins)
  | _ => none
abbrev AlZ : Type := AlD × Bool × List FnS
def inS (K : PySem.W.Frag) (xs : List (Str × FnS)) : List FnS := xs.map fun p => fnS K (ma K (ga K p.1) "__init__")
def obsZ (n : Nat) (fa : List Fa) (fn : List DefD) (ex : PySem.W.Frag → Bool) (xs : List (Str × FnS)) (g : Addr → Option Obj) : AlZ := (obsD fa fn (frG g (asY g n)), ex (frG g (asY g n)), inS (frG g (asY g n)) xs)
structure SaysZ (fa : List Fa) (fn : List DefD) (ex : PySem.W.Frag → Bool) (xs : List (Str × FnS)) (K : PySem.W.Frag) : Prop where
  d : SaysD fa fn K
  more : ex K = true
  ini : inS K xs = xs.map fun p => p.2
def hookZ (n : Nat) (fa : List Fa) (fn : List DefD) (ex : PySem.W.Frag → Bool) (xs : List (Str × FnS)) : PySem.W.Hook where
  α := AlZ
  obs := fun s => obsZ n fa fn ex xs s.heap.get?
  val := fun _ => (valD fn, true, xs.map fun p => p.2)
  says := fun _ h => ∃ K : PySem.W.Frag, K.In h ∧ SaysZ fa fn ex xs K
  of := fun _ _ e => ⟨_, frG_in, congrArg (fun z : AlZ => z.1) (show (_ : AlZ) = _ from e), congrArg (fun z : AlZ => z.2.1) (show (_ : AlZ) = _ from e), congrArg (fun z : AlZ => z.2.2) (show (_ : AlZ) = (valD fn, true, xs.map fun p => p.2) from e)⟩
  keeps := fun _ _ _ ⟨K, hK, c⟩ k => ⟨K, PySem.W.Frag.In.keeps hK k, c⟩
theorem obsZ_eq {n : Nat} {fa : List Fa} {fn : List DefD} {ex : PySem.W.Frag → Bool} {xs : List (Str × FnS)} {g : Addr → Option Obj} {s : Shared} (h : ∀ a, g a = s.heap.get? a) : obsZ n fa fn ex xs g = (hookZ n fa fn ex xs).obs s := by
  have e : g = s.heap.get? := funext h
  rw [e]; rfl
theorem SaysZ.at_ {fa : List Fa} {fn : List DefD} {ex : PySem.W.Frag → Bool} {xs : List (Str × FnS)} {K : PySem.W.Frag} (c : SaysZ fa fn ex xs K) (i : Nat) {p : Str × FnS} (h : xs[i]? = some p) : fnS K (ma K (ga K p.1) "__init__") = p.2 := by
  have e : (inS K xs)[i]? = (xs.map fun p => p.2)[i]? := by rw [c.ini]
  unfold inS at e
  rw [List.getElem?_map, List.getElem?_map, h] at e
  exact Option.some.inj e
/-- the function of such an __init__, its closure's cell, its code -/
def fnOf? (K : PySem.W.Frag) (f : Addr) : Option FuncData := match K.lookup f with
  | some ⟨_, _, .func fd, _⟩ => some fd
  | _ => none
def cellOf (K : PySem.W.Frag) (f : Addr) : Addr := match fnOf? K f with
  | some fd => (match fd.closure with
    | [(_, c)] => c
    | _ => 0)
  | none => 0
def codeOfF (K : PySem.W.Frag) (f : Addr) : Addr := match fnOf? K f with
  | some fd => (match fd.code with
    | .ref c => c
    | _ => 0)
  | none => 0
def codeB (prog : Program) (K : PySem.W.Frag) (c : Addr) : Bool := match K.lookup c with
  | some ⟨_, _, .fields vs, _⟩ => (match vs[2]? with
    | some (Value.str file _) => ((prog.main.file : Str) == file)
    | _ => false)
  | _ => false
def cellB (K : PySem.W.Frag) (cc C : Addr) : Bool := match K.lookup cc with
  | some ⟨_, _, .cell (some (.ref D)), _⟩ => decide (D = C)
  | _ => false
def clsB (K : PySem.W.Frag) (C : Addr) : Bool := match PySem.W.clsIn K C with
  | some cd => PySem.HandSPX.refsVE cd.mro && cd.hasDict
  | none => false
def eqV (a b : Option (Option Value)) : Bool := decide (a = b)
def clsrB (K : PySem.W.Frag) (f : Addr) : Bool := match K.lookup f with
  | some ⟨_, _, .func fd, _⟩ => decide (fd.closure = [(("__class__" : Str), cellOf K f)]) && (decide (fd.code = .ref (codeOfF K f)) && PySem.W.codeIn K fd.code fd.qualname)
  | _ => false
/-- all that is asked of an own exception class over ValueError, but the function's text -/
def excB (prog : Program) (K : PySem.W.Frag) (x F : Str) : Bool :=
  let C := ga K x
  let f := ma K C "__init__"
  clsrB K f && (PySem.W.excInitIn K C Ev.veB "ValueError.__new__" && (eqV (PySem.W.findIn K (.ref C) "__init__") (some (some (.ref f))) && (PySem.W.isFn K (.ref f) && (codeB prog K (codeOfF K f) && (cellB K (cellOf K f) C && (clsB K C &&
    (decide (PySem.W.mroIn K C (.ref C) = some true) && ((prog.main.scope.names.lookup ("super" : Str)).isSome == false && (eqV (PySem.W.nsIn K cStatics "thirdparty.any") (some none) && (eqV (PySem.W.ks_superIn K C C "__init__") (some (some (.builtin "ValueError.__init__"))) &&
    (decide (PySem.W.subIn K (.ref C) (.type "ValueError") = some true) && (eqV (PySem.W.findIn K (.ref C) "__setattr__") (some (some (.builtin "object.__setattr__"))) && (eqV (PySem.W.findIn K (.ref C) F) (some none) && (decide (F ≠ "self") && ((F == ("__debug__" : Str)) == false &&
    (PySem.W.keepIn K (.ref C) && (decide (PySem.W.subIn K (.ref C) (.type "BaseException") = some true) && (decide (PySem.W.typeIn K (.ref C) = some (.type "type")) && (decide (PySem.W.exmOne K (.ref C) (.ref C) = some true) && xfB K C)))))))))))))))))))
structure ExcF (prog : Program) (K : PySem.W.Frag) (x F : Str) : Prop where
  a0 : clsrB K (ma K (ga K x) "__init__") = true
  a1 : PySem.W.excInitIn K (ga K x) Ev.veB "ValueError.__new__" = true
  a2 : PySem.W.findIn K (.ref (ga K x)) "__init__" = some (some (.ref (ma K (ga K x) "__init__")))
  a3 : PySem.W.isFn K (.ref (ma K (ga K x) "__init__")) = true
  a4 : codeB prog K (codeOfF K (ma K (ga K x) "__init__")) = true
  a5 : cellB K (cellOf K (ma K (ga K x) "__init__")) (ga K x) = true
  a6 : clsB K (ga K x) = true
  a7 : PySem.W.mroIn K (ga K x) (.ref (ga K x)) = some true
  a8 : (prog.main.scope.names.lookup ("super" : Str)).isSome = false
  a9 : PySem.W.nsIn K cStatics "thirdparty.any" = some none
  b1 : PySem.W.ks_superIn K (ga K x) (ga K x) "__init__" = some (some (.builtin "ValueError.__init__"))
  b2 : PySem.W.subIn K (.ref (ga K x)) (.type "ValueError") = some true
  b3 : PySem.W.findIn K (.ref (ga K x)) "__setattr__" = some (some (.builtin "object.__setattr__"))
  b4 : PySem.W.findIn K (.ref (ga K x)) F = some none
  b5 : F ≠ "self"
  b6 : (F == ("__debug__" : Str)) = false
  b7 : PySem.W.keepIn K (.ref (ga K x)) = true
  b8 : PySem.W.subIn K (.ref (ga K x)) (.type "BaseException") = some true
  b9 : PySem.W.typeIn K (.ref (ga K x)) = some (.type "type")
  c1 : PySem.W.exmOne K (.ref (ga K x)) (.ref (ga K x)) = some true
  c2 : xfB K (ga K x) = true
theorem excB_ok {prog : Program} {K : PySem.W.Frag} {x F : Str} (h : excB prog K x F = true) : ExcF prog K x F := by
  unfold excB at h
  obtain ⟨a0, h⟩ := ba h
  obtain ⟨a1, h⟩ := ba h
  obtain ⟨a2, h⟩ := ba h
  obtain ⟨a3, h⟩ := ba h
  obtain ⟨a4, h⟩ := ba h
  obtain ⟨a5, h⟩ := ba h
  obtain ⟨a6, h⟩ := ba h
  obtain ⟨a7, h⟩ := ba h
  obtain ⟨a8, h⟩ := ba h
  obtain ⟨a9, h⟩ := ba h
  obtain ⟨b1, h⟩ := ba h
  obtain ⟨b2, h⟩ := ba h
  obtain ⟨b3, h⟩ := ba h
  obtain ⟨b4, h⟩ := ba h
  obtain ⟨b5, h⟩ := ba h
  obtain ⟨b6, h⟩ := ba h
  obtain ⟨b7, h⟩ := ba h
  obtain ⟨b8, h⟩ := ba h
  obtain ⟨b9, h⟩ := ba h
  obtain ⟨c1, c2⟩ := ba h
  exact ⟨a0, a1, of_decide_eq_true a2, a3, a4, a5, a6, of_decide_eq_true a7, by simpa using a8, of_decide_eq_true a9, of_decide_eq_true b1, of_decide_eq_true b2, of_decide_eq_true b3, of_decide_eq_true b4, of_decide_eq_true b5, by simpa using b6, b7, of_decide_eq_true b8,
    of_decide_eq_true b9, of_decide_eq_true c1, c2⟩
/-- the class as the layer wants it: fn, what stands of its __init__ -/
theorem ExcF.t {prog : Program} {K : PySem.W.Frag} {x F : Str} (e : ExcF prog K x F) (i : Ev.ExI F K (ma K (ga K x) "__init__") (cellOf K (ma K (ga K x) "__init__")) (codeOfF K (ma K (ga K x) "__init__"))) :
    Ev.ExT prog F K (ga K x) (ma K (ga K x) "__init__") (cellOf K (ma K (ga K x) "__init__")) (codeOfF K (ma K (ga K x) "__init__")) := by
  refine ⟨e.a1, e.a2, e.a3, i, ?_, ?_, ?_, e.a7, e.a8, e.a9, e.b1, e.b2, e.b3, e.b4, e.b5, e.b6⟩
  · have h := e.a4
    unfold codeB at h
    split at h
    · rename_i c d vs sl lk
      split at h
      · rename_i file tf hv
        exact ⟨_, _, vs, _, file, tf, lk, hv, h⟩
      · cases h
    · cases h
  · have h := e.a5
    unfold cellB at h
    split at h
    · rename_i c d D sl lk
      have q : D = _ := of_decide_eq_true h
      subst q
      exact ⟨_, _, _, lk⟩
    · cases h
  · have h := e.a6
    unfold clsB at h
    split at h
    · rename_i cd q
      obtain ⟨h1, h2⟩ := ba h
      exact ⟨cd, q, h1, h2⟩
    · cases h
theorem ExcF.c {prog : Program} {K : PySem.W.Frag} {mg : Str → Option Value} {x F : Str} (e : ExcF prog K x F) (g : mg x = some (.ref (ga K x))) (n : PySem.W.nsIn K mainGlobals x = some (some (.ref (ga K x)))) : Ev.ExC K mg x F := ⟨_, g, n, e.c1, xfB_ok e.c2, e.b4⟩
theorem ExcF.k {prog : Program} {K : PySem.W.Frag} {mg : Str → Option Value} {x F : Str} (e : ExcF prog K x F) (i : Ev.ExI F K (ma K (ga K x) "__init__") (cellOf K (ma K (ga K x) "__init__")) (codeOfF K (ma K (ga K x) "__init__"))) (g : mg x = some (.ref (ga K x)))
    (n : PySem.W.nsIn K mainGlobals x = some (some (.ref (ga K x)))) : Ev.ExK prog K mg x F := ⟨_, _, _, _, e.t i, g, n, e.b7, e.b8, e.b9⟩
/-- what is observed of the function at f tells its data -/
theorem fnS_at {K : PySem.W.Frag} {f : Addr} {n q : Str} {a : Arguments} {b : FuncBody} {s : Scope} {g bl : Addr} {c : List Str} {d : Value} (h : fnS K f = some (n, q, a, b, s, g, c, d, bl)) (k : clsrB K f = true) :
    ∃ oc od fd osl, K.lookup f = some ⟨oc, od, .func fd, osl⟩ ∧ fd.name = n ∧ fd.qualname = q ∧ fd.params = a ∧ fd.body = b ∧ fd.scope = s ∧ fd.globals = g ∧ fd.closure = [(("__class__" : Str), cellOf K f)] ∧ fd.defaults = d ∧ fd.builtins = bl ∧ fd.code = .ref (codeOfF K f) ∧ PySem.W.codeIn K (.ref (codeOfF K f)) q = true := by
  unfold fnS at h
  unfold clsrB at k
  split at h
  · rename_i oc od fd osl lk
    rw [lk] at k
    obtain ⟨k1, k2⟩ := ba k
    obtain ⟨k2, k3⟩ := ba k2
    have h' := Option.some.inj h
    simp only [Prod.mk.injEq] at h'
    obtain ⟨h1, h2, h3, h4, h5, h6, h7, h8, h9⟩ := h'
    have e2 := of_decide_eq_true k2
    exact ⟨oc, od, fd, osl, lk, h1, h2, h3, h4, h5, h6, of_decide_eq_true k1, h8, h9, e2, by rw [← e2, ← h2]; exact k3⟩
  · cases h
/-- such an __init__ by its text -/
theorem exI_of {F : Str} {K : PySem.W.Frag} {f : Addr} {qual : Str} {params : Arguments} {body : List Stmt} {scope : Scope} (h : fnS K f = some (("__init__" : Str), qual, params, FuncBody.stmts body, scope, mainGlobals, [("__class__" : Str)], Value.none, builtinsNs)) (k : clsrB K f = true)
    (hb : ∃ p0 p1 p2 p3 p4 p5 p6 p7 p8 p9 : Pos, body = [.Expr (.Call (.Attribute (.Call (.Name "super" p0) [] [] p1) "__init__" p2) [.Name F p3] [] p4) p5, .Assign [.Attribute (.Name "self" p6) F p7] (.Name F p8) p9] ∧ (p2.endLine == p4.line) = true)
    (hp : ∃ ar, (params.posonlyargs ++ params.args).head? = some ar ∧ ar.arg = "self")
    (hbind : ∀ (kV doc pm : Value) (an : Option Addr) (ct : Value) (cc cd : Addr) (a b : Value), bindArgs (PySem.W.ksFn "__init__" qual params body scope .none kV doc pm an (.ref cd) ct cc) ⟨[a, b], []⟩ = pure [(("self" : Str), a), (F, b)])
    (h1 : scope.kind = .function) (h2 : scope.isCoroutine = false) (h3 : scope.isGenerator = false) (h4 : ∀ x ∈ scope.names, x.2 ≠ .cell) (h5 : scope.names.lookup ("self" : Str) = some .local) (h6 : scope.names.lookup F = some .local) (h7 : scope.names.lookup ("__class__" : Str) = some .free)
    (h8 : scope.names.lookup ("super" : Str) = some .globalImplicit) : Ev.ExI F K f (cellOf K f) (codeOfF K f) := by
  obtain ⟨oc, od, fd, osl, lk, e1, e2, e3, e4, e5, e6, e7, e8, e9, e10, cd⟩ := fnS_at h k
  obtain ⟨p0, p1, p2, p3, p4, p5, p6, p7, p8, p9, hb, hl⟩ := hb
  obtain ⟨ar, ha, hs⟩ := hp
  subst hb
  obtain ⟨n, q, a, b, sc, g, cl, dV, kV, doc, pm, an, cde, ct, bl⟩ := fd
  simp only at e1 e2 e3 e4 e5 e6 e7 e8 e9 e10
  subst e1 e2 e3 e4 e5 e6 e7 e8 e9 e10
  exact ⟨_, _, _, kV, doc, pm, an, ct, oc, od, osl, ar, 0, p0, p1, p2, p3, p4, p5, p6, p7, p8, p9, lk, cd, ha, hs, fun s a b => BindsTo.of_eq (hbind _ _ _ _ _ _ _ a b), h1, h2, h3, h4, h5, h6, h7, h8, hl⟩
end Hz

/-! D25: zip over any two of list, tuple, text. -/
namespace Ev
open PySem PySem.Spec L2
open PyProof.Rows hiding St
variable [Tb]

/-- what is walked by one of zip's iterators -/
inductive Kd where
  | lst (a : Addr)
  | tup (a : Addr)
  | txt (z : Str) (t : Tok)
def Kd.val : Kd → Value
  | .lst a => .ref a
  | .tup a => .ref a
  | .txt z t => .str z t
def Kd.obj : Kd → Obj
  | .lst a => { cls := .type "list_iterator", data := .fields #[.ref a, .int 0 0] }
  | .tup a => { cls := .type "tuple_iterator", data := .fields #[.ref a, .int 0 0] }
  | .txt z t => { cls := .type (strIterType z), data := .fields #[.str z t, .int 0 0] }
def Kd.it (k : Kd) (b : Addr) (i : Nat) (h : Heap) : Prop := match k with
  | .lst a => h.IsListIter b a i
  | .tup a => h.IsTupleIter b a i
  | .txt z t => h.IsStrIter b (strIterType z) z t i
def chars (z : Str) : List V := z.cps.toList.map fun c => .str ⟨#[c]⟩
def Kd.has (K : PySem.W.Frag) (H : Hp) (k : Kd) (xs : List V) : Prop := match k with
  | .lst a => SqL K H a xs
  | .tup a => SqT K H a xs
  | .txt z _ => xs = chars z
def Kd.at (k : Kd) (b : Addr) : Prop := match k with
  | .lst a => b = a
  | .tup a => b = a
  | .txt _ _ => False
section
variable {X : Cx} {pins : List (Addr × Obj)} {σ : St} {H : Hp} {s : Shared}
theorem Kd.there {k : Kd} {b : Addr} {i : Nat} {h : Heap} (q : k.it b i h) : ∃ o, h.get? b = some o ∧ ∀ v, o.data ≠ .cell v := by
  cases k with
  | lst a => obtain ⟨o, e, _, d⟩ := q; exact ⟨o, e, fun v z => by rw [d] at z; cases z⟩
  | tup a => obtain ⟨o, e, _, d⟩ := q; exact ⟨o, e, fun v z => by rw [d] at z; cases z⟩
  | txt z t => obtain ⟨o, e, _, d⟩ := q; exact ⟨o, e, fun v z => by rw [d] at z; cases z⟩
theorem Kd.keep {k : Kd} {b : Addr} {i : Nat} {h h' : Heap} (q : k.it b i h) (e : ∀ o, h.get? b = some o → h'.get? b = some o) : k.it b i h' := by
  cases k with
  | lst a => obtain ⟨o, x, r⟩ := q; exact ⟨o, e o x, r⟩
  | tup a => obtain ⟨o, x, r⟩ := q; exact ⟨o, e o x, r⟩
  | txt z t => obtain ⟨o, x, r⟩ := q; exact ⟨o, e o x, r⟩
theorem Kd.new {k : Kd} {b : Addr} {h : Heap} (e : h.get? b = some k.obj) : k.it b 0 h := by
  cases k with
  | lst a => exact ⟨_, e, rfl, rfl⟩
  | tup a => exact ⟨_, e, rfl, rfl⟩
  | txt z t => exact ⟨_, e, rfl, rfl⟩
theorem Kd.inj {k : Kd} {xs ys : List V} (I : Inv X pins σ H s) (h : k.has X.K H xs) (h' : k.has X.K H ys) : xs = ys := by
  cases k with
  | lst a => exact I.list_inj h h'
  | tup a => exact I.tuple_inj h h'
  | txt z t => exact h.trans h'.symm
theorem vals_getR : ∀ {xs : List V} {us : List Value} {i : Nat} {u : Value}, Vals xs us → us[i]? = some u → ∃ x, xs[i]? = some x ∧ RelV x u
  | _, _, _, _, .nil, e => by simp at e
  | _, _, 0, _, .cons r _, e => by simp at e; subst e; exact ⟨_, rfl, r⟩
  | _, _, i + 1, x, .cons _ t, e => by
    obtain ⟨y, e', r⟩ := vals_getR t (i := i) (u := x) (by simpa using e)
    exact ⟨y, by simpa using e', r⟩
/-- the library's word for such an iterator, at this heap -/
theorem Kd.draws {k : Kd} {xs : List V} (I : Inv X pins σ H s) (hh : X.A.handled = none) (h : k.has X.K H xs) (b : Addr) (hb : ¬ k.at b) : ∃ (fp : List Addr) (P : Nat → Value → Prop) (Sx : Nat → Heap → Prop), Draws X.prog X.w X.A.in1 b fp xs.length P Sx ∧ b ∈ fp ∧ (∀ c ∈ fp, c = b ∨ k.at c) ∧
    (∀ i, k.it b i s.heap → Sx i s.heap) ∧ (∀ i h', Sx i h' → k.it b i h') ∧ ∀ i v, P i v → ∃ x, xs[i]? = some x ∧ RelV x v := by
  cases k with
  | lst a =>
    obtain ⟨its, rv, p, _⟩ := I.list h
    have l := rv.length
    refine ⟨[b, a], (fun i v => its.toArray[i]? = some v), (fun i h => h.IsListIter b a i ∧ h.IsList a its.toArray), by have := Draws.list (prog := X.prog) (w := X.w) (A := X.A.in1) hh b a (fun z => hb z.symm) its.toArray; rw [List.size_toArray, ← l] at this; exact this, by simp, fun c hc => ?_, fun i q => ⟨q, p.isList⟩, fun i h' q => q.1, fun i v q => ?_⟩
    · simp at hc
      rcases hc with rfl | rfl
      · exact .inl rfl
      · exact .inr rfl
    · have q' : its[i]? = some v := by simpa using q
      obtain ⟨x, e, r⟩ := vals_getR rv q'
      exact ⟨x, e, r⟩
  | tup a =>
    obtain ⟨its, rv, p, _⟩ := I.tuple h
    have l := rv.length
    refine ⟨[b, a], (fun i v => its.toArray[i]? = some v), (fun i h => h.IsTupleIter b a i ∧ h.IsTuple a its.toArray), by have := Draws.tuple (prog := X.prog) (w := X.w) (A := X.A.in1) hh b a (fun z => hb z.symm) its.toArray; rw [List.size_toArray, ← l] at this; exact this, by simp, fun c hc => ?_, fun i q => ⟨q, p⟩, fun i h' q => q.1, fun i v q => ?_⟩
    · simp at hc
      rcases hc with rfl | rfl
      · exact .inl rfl
      · exact .inr rfl
    · have q' : its[i]? = some v := by simpa using q
      obtain ⟨x, e, r⟩ := vals_getR rv q'
      exact ⟨x, e, r⟩
  | txt z t =>
    have hx : xs = chars z := h
    subst hx
    have l : (chars z).length = z.cps.size := by simp [chars]
    rw [l]
    refine ⟨[b], _, _, Draws.text (A := X.A.in1) hh b z t, by simp, fun c hc => .inl (by simpa using hc), fun i q => q, fun i h' q => q, fun i v q => ?_⟩
    obtain ⟨c, u, e, rfl⟩ := q
    exact ⟨.str ⟨#[c]⟩, by simp [chars, e], ⟨u, rfl⟩⟩
/-- the two as they stand at each turn, the items in new pairs -/
def Itzz (K : PySem.W.Frag) (k1 k2 : Kd) : It :=
  ⟨fun i H => ∃ xs ys, k1.has K H xs ∧ k2.has K H ys ∧ i < xs.length ∧ i < ys.length,
    fun i H v H' => ∃ T x y, v = .ref T ∧ H T = none ∧ H' = upd H T (.tup [x, y]) ∧ (∀ xs, k1.has K H xs → xs[i]? = some x) ∧ ∀ ys, k2.has K H ys → ys[i]? = some y,
    fun i H => ∃ xs ys, k1.has K H xs ∧ k2.has K H ys ∧ i ≤ xs.length ∧ i ≤ ys.length ∧ (i = xs.length ∨ i = ys.length)⟩
/-- the cells lie apart -/
structure Zap (z TI TO i1 i2 : Addr) (k1 k2 : Kd) : Prop where
  a1 : TI ≠ z
  a2 : TO ≠ z
  a3 : TI ≠ TO
  a4 : TI ≠ i1
  a5 : TI ≠ i2
  a6 : z ≠ i1
  a7 : z ≠ i2
  a8 : TO ≠ i1
  a9 : TO ≠ i2
  b1 : i1 ≠ i2
  c1 : ∀ c, k1.at c ∨ k2.at c → c ≠ z ∧ c ≠ TO ∧ c ≠ i1 ∧ c ≠ i2
theorem Zap.sep {z TI TO i1 i2 : Addr} {k1 k2 : Kd} (D : Zap z TI TO i1 i2 k1 k2) {fp1 fp2 : List Addr} (m1 : i1 ∈ fp1) (m2 : i2 ∈ fp2) (f1 : ∀ c ∈ fp1, c = i1 ∨ k1.at c) (f2 : ∀ c ∈ fp2, c = i2 ∨ k2.at c) : ZipSep2 z TI TO i1 i2 fp1 fp2 :=
  { TIz := D.a1, TOz := D.a2, TITO := D.a3, TIi1 := D.a4, mem1 := m1, TIi2 := D.a5, mem2 := m2,
    zf1 := fun q => by rcases f1 _ q with e | e; exact D.a6 e; exact (D.c1 _ (.inl e)).1 rfl
    Tf1 := fun q => by rcases f1 _ q with e | e; exact D.a8 e; exact (D.c1 _ (.inl e)).2.1 rfl
    zf2 := fun q => by rcases f2 _ q with e | e; exact D.a7 e; exact (D.c1 _ (.inr e)).1 rfl
    Tf2 := fun q => by rcases f2 _ q with e | e; exact D.a9 e; exact (D.c1 _ (.inr e)).2.1 rfl
    sep1_2 := fun q => by rcases f2 _ q with e | e; exact D.b1 e; exact (D.c1 _ (.inr e)).2.2.1 rfl
    sep2_1 := fun q => by rcases f1 _ q with e | e; exact D.b1 e.symm; exact (D.c1 _ (.inl e)).2.2.2 rfl }
end
theorem turn_zz {P : Program} {w : World} {K : PySem.W.Frag} {elts : List Expr} {kk : Nat} {tpos : Pos} {z TI TO i1 i2 : Addr} {k1 k2 : Kd} (D : Zap z TI TO i1 i2 k1 k2) :
    Turn P w K (.Tuple elts kk tpos) (Itzz K k1 k2) [z, TI, TO, i1, i2] z (fun i h => IsZip h z TI TO .none ∧ IsTupOf2 h TI (.ref i1) (.ref i2) ∧ (∃ x y, IsTupOf2 h TO x y) ∧ k1.it i1 i h ∧ k2.it i2 i h) where
  mem := by simp
  obj := fun i h st c hc => by
    obtain ⟨hz, hTI, ⟨x, y, hTO⟩, h1, h2⟩ := st
    have e' : c = z ∨ c = TI ∨ c = TO ∨ c = i1 ∨ c = i2 := by simpa using hc
    rcases e' with rfl | rfl | rfl | rfl | rfl
    · exact ⟨_, hz, fun v q => nomatch q⟩
    · exact ⟨_, hTI, fun v q => nomatch q⟩
    · exact ⟨_, hTO, fun v q => nomatch q⟩
    · exact Kd.there (k := k1) h1
    · exact Kd.there (k := k2) h2
  keep := fun i h h' st k => by
    obtain ⟨hz, hTI, ⟨x, y, hTO⟩, h1, h2⟩ := st
    exact ⟨k z (by simp) _ hz, k TI (by simp) _ hTI, ⟨x, y, k TO (by simp) _ hTO⟩, Kd.keep (k := k1) h1 (k i1 (by simp)), Kd.keep (k := k2) h2 (k i2 (by simp))⟩
  item := by
    intro X hP hw hK hc i pins s σ H E I hf st hg
    subst hP hw hK
    obtain ⟨hz, hTI, ⟨x0, y0, hTO⟩, h1, h2⟩ := st
    obtain ⟨xs, ys, hx, hy, l1, l2⟩ := hg
    obtain ⟨fp1, P1, S1, D1, m1, f1, u1, v1, w1⟩ := Kd.draws I (I.ok.hd hc) hx i1 (fun q => (D.c1 _ (.inl q)).2.2.1 rfl)
    obtain ⟨fp2, P2, S2, D2, m2, f2, u2, v2, w2⟩ := Kd.draws I (I.ok.hd hc) hy i2 (fun q => (D.c1 _ (.inr q)).2.2.2 rfl)
    have hzl : z < s.heap.objs.size := Heap.lt_size hz
    refine wpAny_pyNext_zipD2_item (D.sep m1 m2 f1 f2) D1 D2 hz hTI hTO (u1 i h1) (u2 i h2) l1 l2 fun x1 x2 h' tk p1 p2 z' TO' s1 s2 hT hsz hk => ?_
    obtain ⟨x, ex, rx⟩ := w1 i x1 p1
    obtain ⟨y, ey, ry⟩ := w2 i x2 p2
    refine ⟨_, rfl, wpAny_letOwnedTupleGo_zip (s := { s with heap := h', toks := tk }) z' fun h'' z'' sb => ?_⟩
    have hT2 : h''.get? s.heap.objs.size = some { cls := .type "tuple", data := .seq #[x1, x2] } := (sb.2 _ (Nat.ne_of_gt hzl)).trans hT
    have new : ObjOk X.prog X.w (upd H s.heap.objs.size (.tup [x, y])) h'' s.heap.objs.size (.tup [x, y]) := ⟨by show 2 ≤ sizeLine; decide, [x1, x2], .cons rx (.cons ry .nil), ⟨_, hT2, rfl, _, rfl⟩⟩
    have I1 : Inv X pins σ (upd H s.heap.objs.size (.tup [x, y])) { s with heap := h'', toks := tk } :=
      I.turnedNew (t' := tk) (ch := [z, TI, TO, i1, i2]) (fun c o hb q => (sb.2 c (fun q' => hb (by simp [q']))).trans (hk c o (fun q' => hb (by simp [q'])) (fun q' => hb (by simp [q'])) (fun q' => hb (by simp [q'])) (fun q' => hb (by simp [q'])) q)) hf (Nat.le_refl _) new
    refine ⟨.ref s.heap.objs.size, _, I1, rfl, ⟨_, x, y, rfl, I.hok.fresh (Nat.le_refl _), rfl, fun l hl => by rw [Kd.inj I hl hx]; exact ex, fun l hl => by rw [Kd.inj I hl hy]; exact ey⟩, ⟨z'', ?_, ⟨x1, x2, ?_⟩, ?_, ?_⟩, fun c hcm => ?_⟩
    · exact (sb.2 _ D.a1).trans (hk _ _ D.a1 D.a3 D.a4 D.a5 hTI)
    · exact (sb.2 _ D.a2).trans TO'
    · exact Kd.keep (k := k1) (v1 _ _ s1) fun o q => (sb.2 _ (Ne.symm D.a6)).trans q
    · exact Kd.keep (k := k2) (v2 _ _ s2) fun o q => (sb.2 _ (Ne.symm D.a7)).trans q
    · have hlt : c < s.heap.objs.size := by
        have e' : c = z ∨ c = TI ∨ c = TO ∨ c = i1 ∨ c = i2 := by simpa using hcm
        rcases e' with rfl | rfl | rfl | rfl | rfl
        · exact hzl
        · exact Heap.lt_size hTI
        · exact Heap.lt_size hTO
        · obtain ⟨_, e1, _⟩ := Kd.there (k := k1) h1; exact Heap.lt_size e1
        · obtain ⟨_, e2, _⟩ := Kd.there (k := k2) h2; exact Heap.lt_size e2
      rw [upd_ne (Nat.ne_of_lt hlt)]
      exact (hf c hcm).1
  done := by
    intro X hP hw hK hc i pins s σ H E I hf st hg
    subst hP hw hK
    obtain ⟨hz, hTI, ⟨x0, y0, hTO⟩, h1, h2⟩ := st
    obtain ⟨xs, ys, hx, hy, l1, l2, le⟩ := hg
    obtain ⟨fp1, P1, S1, D1, m1, f1, u1, v1, w1⟩ := Kd.draws I (I.ok.hd hc) hx i1 (fun q => (D.c1 _ (.inl q)).2.2.1 rfl)
    obtain ⟨fp2, P2, S2, D2, m2, f2, u2, v2, w2⟩ := Kd.draws I (I.ok.hd hc) hy i2 (fun q => (D.c1 _ (.inr q)).2.2.2 rfl)
    exact wpAny_pyNext_zipD2_end (D.sep m1 m2 f1 f2) D1 D2 hz hTI hTO (u1 i h1) (u2 i h2) l1 l2 le fun h' tk hk => ⟨rfl, I.turnedL (t' := tk) (ch := [z, TI, TO, i1, i2]) (fun c o hb q =>
      hk c o (fun q' => hb (by simp [q'])) (fun q' => hb (by simp [q'])) (fun q' => hb (by simp [q'])) (fun q' => hb (by simp [q'])) q) hf⟩
  self := fun A i s Q E st h => wpAny_pyIter_zip st.1 h
/-- the kind of data that zip walks -/
theorem kd_of {X : Cx} {pins : List (Addr × Obj)} {σ : St} {H : Hp} {s : Shared} {v : V} {u : Value} {d : PyData} {ds : List PyData} (I : Inv X pins σ H s) (r : RelV v u) (i : IsD X.K H v d) (e : itemsOf d = some ds) :
    ∃ k : Kd, k.val = u ∧ (∃ xs, k.has X.K H xs) ∧ (∀ c, k.at c → c < s.heap.objs.size) ∧ ∃ Hx : Heap → Prop, Begins u k.obj Hx ∧ Hx s.heap ∧
      ∃ E : List (V × SV), (∀ e ∈ E, ∃ o, Ent X.K H e o ∧ o = []) ∧ ∀ H', Stand X.K E H' → ∃ xs, k.has X.K H' xs ∧ IsAll X.K H' xs ds := by
  cases d with
  | list zs =>
    cases e
    generalize hd : PyData.list ds = dd at i
    cases i with
    | @lst a xs _ hf t =>
      cases hd
      cases r
      obtain ⟨its, rv, p, _⟩ := I.list (hf.elim fun o h => .inl (.inr ⟨o, h⟩))
      have hs : SqL X.K H a xs := hf.elim fun o h => .inl (.inr ⟨o, h⟩)
      refine ⟨.lst a, rfl, ⟨xs, hs⟩, fun c q => by cases q; exact p.lt, _, begins_list a its.toArray, p.isList, [(.ref a, .dat (.list ds))], fun e he => ?_, fun H' st => ?_⟩
      · simp at he; subst he; exact ⟨[], .dat (.lst hf t), rfl⟩
      · obtain ⟨vs, h, t'⟩ := frl_list (stand_dat st List.mem_cons_self)
        exact ⟨vs, h.elim fun o q => .inl (.inr ⟨o, q⟩), t'⟩
    | _ => cases hd
  | tuple zs =>
    cases e
    generalize hd : PyData.tuple ds = dd at i
    cases i with
    | @tup a xs _ hs t =>
      cases hd
      cases r
      obtain ⟨its, rv, p, _⟩ := I.tuple hs
      refine ⟨.tup a, rfl, ⟨xs, hs⟩, fun c q => by cases q; obtain ⟨o, e, _⟩ := p; exact Heap.lt_size e, _, begins_tuple a its.toArray, p, [(.ref a, .dat (.tuple ds))], fun e he => ?_, fun H' st => ?_⟩
      · simp at he; subst he; exact ⟨[], .dat (.tup hs t), rfl⟩
      · obtain ⟨vs, h, t'⟩ := sqt_tup (stand_dat st List.mem_cons_self)
        exact ⟨vs, h, t'⟩
    | _ => cases hd
  | str z =>
    cases i
    obtain ⟨t, rfl⟩ := r
    have e' : ds = z.cps.toList.map fun c => .str ⟨#[c]⟩ := (Option.some.inj e).symm
    refine ⟨.txt z t, rfl, ⟨chars z, rfl⟩, fun c q => q.elim, _, begins_text z t, trivial, [], fun e he => by simp at he, fun H' _ => ⟨chars z, rfl, ?_⟩⟩
    rw [e']
    unfold chars
    induction z.cps.toList with
    | nil => exact .nil
    | cons c cs ih => exact .cons (.str _) ih
  | none => cases e
  | bool _ => cases e
  | int _ => cases e
  | dict _ => cases e
/-- zip(a, b) -/
def itZip (ms : List (M Opd)) : M (List PyData) := bnd (evs ms) fun os => bnd (takes os) fun ds => match ds with
  | [d1, d2] => match itemsOf d1, itemsOf d2 with
    | some xs, some ys => ret ((xs.zip ys).map fun p => .tuple [p.1, p.2])
    | _, _ => stuck
  | _ => stuck
def iZz (K : PySem.W.Frag) (ta : TA) : TI := fun σ H R => ta σ H fun vs H1 => ∃ v1 v2 d1 d2 xs ys, vs = [v1, v2] ∧ IsD K H1 v1 d1 ∧ IsD K H1 v2 d2 ∧ itemsOf d1 = some xs ∧ itemsOf d2 = some ys ∧
  ∀ (k1 k2 : Kd) (E : List (V × SV)), (∀ e ∈ E, ∃ o, Ent K H1 e o ∧ o = []) → (∀ H', Stand K E H' → ∃ as bs, k1.has K H' as ∧ k2.has K H' bs ∧ IsAll K H' as xs ∧ IsAll K H' bs ys) → R (Itzz K k1 k2) H1
section
variable {X : Cx} {W : WX} {as : List Nat} {pos p p2 tpos : Pos}
theorem pi_zz {e e2 : Expr} {ta : TA} {elts : List Expr} {kk : Nat} {x : Str} (hx : x = "zip") (hg : Gl X x) (hm : X.mg x = none) (ha : PA X [e, e2] ta) (hp : plainE e = true) (hp2 : plainE e2 = true) : PI X (.Tuple elts kk tpos) (.Call (.Name x p) [e, e2] [] pos) (iZz X.K ta) := by
  subst hx
  refine ⟨fun pins s σ H R I h => ?_⟩
  refine Call_ (ld_blt I hg hm PyProof.Rows.boot_zip (PyProof.Rows.callWith_type1 (thn (ha.run pos pins s σ H _ I h) fun us s1 ⟨vs, H1, I1, r1, q1⟩ => ?_) (star_plain hp _ _) (by rw [star_plain hp2]; rfl)))
  obtain ⟨v1, v2, d1, d2, xs, ys, rfl, i1, i2, e1, e2, q⟩ := q1
  cases r1 with
  | cons r rr =>
    cases rr with
    | cons r' rr =>
      cases rr
      obtain ⟨k1, rfl, ⟨as1, hs1⟩, lt1, Hx1, B1, b1, E1, en1, st1⟩ := kd_of I1 r i1 e1
      obtain ⟨k2, rfl, ⟨as2, hs2⟩, lt2, Hx2, B2, b2, E2, en2, st2⟩ := kd_of I1 r' i2 e2
      refine zip_begins2 B1 B2 b1 b2 fun h' hz hTI hTO h1 h2 hsz hk => wpAny_pyIter_zip hz ?_
      have I2 : Inv X pins σ H1 { s1 with heap := h' } := I1.kept (t' := s1.toks) hk
      have D : Zap (s1.heap.objs.size + 4) (s1.heap.objs.size + 2) (s1.heap.objs.size + 3) s1.heap.objs.size (s1.heap.objs.size + 1) k1 k2 := by
        refine ⟨?_, ?_, ?_, ?_, ?_, ?_, ?_, ?_, ?_, ?_, fun c hc => ?_⟩
        all_goals first
          | (show (_ : Nat) ≠ _; omega)
          | skip
        have : c < s1.heap.objs.size := by rcases hc with q | q; exact lt1 c q; exact lt2 c q
        refine ⟨?_, ?_, ?_, ?_⟩
        · exact Nat.ne_of_lt (Nat.lt_of_lt_of_le this (Nat.le_add_right _ _))
        · exact Nat.ne_of_lt (Nat.lt_of_lt_of_le this (Nat.le_add_right _ _))
        · exact Nat.ne_of_lt this
        · exact Nat.ne_of_lt (Nat.lt_of_lt_of_le this (Nat.le_add_right _ _))
      refine ⟨s1.heap.objs.size + 4, [s1.heap.objs.size + 4, s1.heap.objs.size + 2, s1.heap.objs.size + 3, s1.heap.objs.size, s1.heap.objs.size + 1], _, _, H1, rfl, I2, turn_zz D, ⟨hz, hTI, ⟨_, _, hTO⟩, Kd.new h1, Kd.new h2⟩, fun c hcm => ?_, q k1 k2 (E1 ++ E2) (fun e he => ?_) fun H' st => ?_⟩
      · have e' : c = s1.heap.objs.size + 4 ∨ c = s1.heap.objs.size + 2 ∨ c = s1.heap.objs.size + 3 ∨ c = s1.heap.objs.size ∨ c = s1.heap.objs.size + 1 := by simpa using hcm
        have hle : s1.heap.objs.size ≤ c := by
          rcases e' with rfl | rfl | rfl | rfl | rfl
          · exact Nat.le_add_right _ _
          · exact Nat.le_add_right _ _
          · exact Nat.le_add_right _ _
          · exact Nat.le_refl _
          · exact Nat.le_add_right _ _
        exact I1.fpOk hle (I1.hok.fresh hle)
      · rcases List.mem_append.mp he with m | m
        · exact en1 e m
        · exact en2 e m
      · obtain ⟨as, a1, a2⟩ := st1 H' fun e he => st e (List.mem_append_left _ he)
        obtain ⟨bs, b1, b2⟩ := st2 H' fun e he => st e (List.mem_append_right _ he)
        exact ⟨as, bs, a1, b1, a2, b2⟩
theorem Ste.more {K : PySem.W.Frag} {H0 H : Hp} {O0 : List Addr} {σ : St} {δ : DS} {T : List (V × SV)} (st : Ste K H0 O0 σ H δ T) : ∀ {E : List (V × SV)}, (∀ e ∈ E, ∃ o, Ent K H e o ∧ o = []) → Ste K H0 O0 σ H δ (E ++ T)
  | [], _ => st
  | e :: E, h => by
    obtain ⟨o, en, rfl⟩ := h e List.mem_cons_self
    exact Ste.step (Tc := []) (Tn := [e]) (st.more fun x hx => h x (List.mem_cons_of_mem _ hx)) fun oc hc nd => by
      cases hc
      exact ⟨[] ++ [], Ents.cons en .nil, by simp, (fun a ha => by simp at ha), Kp.refl _ _⟩
theorem si_zip {e e2 : Expr} {elts : List Expr} {kk : Nat} {x : Str} {ms : List (M Opd)} (hx : x = "zip") (hg : Gl X x) (hm : X.mg x = none) (ha : SA X W [e, e2] (evs ms)) (hp : plainE e = true) (hp2 : plainE e2 = true) : SI X W (.Tuple elts kk tpos) (.Call (.Name x p) [e, e2] [] pos) (itZip ms) :=
  (pi_zz hx hg hm ha.gh hp hp2).imp fun σ H R h => by
    obtain ⟨H0, O0, T, δ, st, hm⟩ := h
    refine ⟨H0, O0, T, δ, st, ?_⟩
    unfold itZip bnd at hm
    cases e1 : evs ms δ with
    | bad => simp only [e1] at hm
    | exn y δ1 => simp only [e1] at hm; exact hm
    | ok os δ1 =>
      simp only [e1] at hm
      intro vs H1 ov st1
      cases e2 : takes os δ1 with
      | bad => simp only [e2] at hm
      | exn y δ2 =>
        exfalso
        have noexn : ∀ {os : List Opd} {δ δ' : DS} {x : Exn}, takes os δ ≠ .exn x δ' := by
          intro os
          induction os with
          | nil => intro δ δ' x h; cases h
          | cons o os ih =>
            intro δ δ' x h
            unfold takes bnd at h
            cases e1 : takeD o δ with
            | bad => simp only [e1] at h; cases h
            | exn y δ1 => exact takeD_noexn e1
            | ok d δ1 =>
              simp only [e1] at h
              cases e2 : takes os δ1 with
              | bad => simp only [e2] at h; cases h
              | exn y δ2 => exact ih e2
              | ok ds δ2 => simp only [e2, ret] at h; cases h
        exact noexn e2
      | ok ds δ2 =>
        simp only [e2] at hm
        refine takes_gh ov st1 e2 fun H2 _ st2 al => ?_
        match ds, al, hm with
        | [d1, d2], al, hm =>
          cases al with
          | cons i1 al =>
            cases al with
            | cons i2 al =>
              cases al
              cases q1 : itemsOf d1 with
              | none => simp only [q1, stuck] at hm
              | some xs =>
                cases q2 : itemsOf d2 with
                | none => simp only [q1, q2, stuck] at hm
                | some ys =>
                  simp only [q1, q2, ret] at hm
                  refine ⟨_, _, d1, d2, xs, ys, rfl, i1, i2, q1, q2, fun k1 k2 E en sd => hm _ H2 E (st2.more en) ⟨fun i H x H' => ∃ T x1 y1, x = .ref T ∧ H T = none ∧ H' = upd H T (.tup [x1, y1]) ∧ (∀ as, k1.has X.K H as → as[i]? = some x1) ∧ ∀ bs, k2.has X.K H bs → bs[i]? = some y1, ⟨fun i H hi g => ?_, fun H g => ?_, fun i H x H' hi g y => y⟩, fun i H x H' y g => ?_⟩⟩
                  · obtain ⟨as, bs, a1, b1, a2, b2⟩ := sd H g
                    have : i < xs.length ∧ i < ys.length := by
                      rw [List.length_map, List.length_zip] at hi
                      exact ⟨Nat.lt_of_lt_of_le hi (Nat.min_le_left _ _), Nat.lt_of_lt_of_le hi (Nat.min_le_right _ _)⟩
                    exact ⟨as, bs, a1, b1, by rw [a2.length]; exact this.1, by rw [b2.length]; exact this.2⟩
                  · obtain ⟨as, bs, a1, b1, a2, b2⟩ := sd H g
                    refine ⟨as, bs, a1, b1, ?_⟩
                    simp only [List.length_map, List.length_zip]
                    have l1 := a2.length
                    have l2 := b2.length
                    refine ⟨?_, ?_, ?_⟩ <;> omega
                  · obtain ⟨as, bs, a1, b1, a2, b2⟩ := sd H g
                    obtain ⟨T, x1, y1, rfl, hT, rfl, w1, w2⟩ := y
                    obtain ⟨dx, ex, ix⟩ := a2.getV (w1 as a1)
                    obtain ⟨dy, ey, iy⟩ := b2.getV (w2 bs b1)
                    have sy : Stays H (upd H T (.tup [x1, y1])) := (Kp.new (O := []) hT).stays fun b hb => by simp at hb
                    refine ⟨Kp.new hT, .tuple [dx, dy], ?_, .tup (.inl (.inl upd_same)) (.cons (ix.stays sy) (.cons (iy.stays sy) .nil))⟩
                    rw [List.getElem?_map, (List.getElem?_zip_eq_some (z := (dx, dy))).mpr ⟨ex, ey⟩]
                    rfl
        | [], _, hm => exact hm.elim
        | [_], _, hm => exact hm.elim
        | _ :: _ :: _ :: _, _, hm => exact hm.elim
end
end Ev

/-! D26: list of a text, a text from behind. -/
namespace Ev
open PySem PySem.Spec L2
open PyProof.Rows hiding St
variable [Tb]

def gListX : PyData → Option SV
  | .str z => if z.length ≤ sizeLine then some (.lst (z.cps.toList.map fun c => .str ⟨#[c]⟩)) else none
  | d => gListOf d
/-- a text from behind -/
def revS (z : Str) : Str := ⟨((Builtin.Str.strSliceIndices none none (-1) z.length).filterMap (z.cps[·]?)).toArray⟩
def gRevX : PyData → Option SV
  | .str z => if (revS z).length ≤ sizeLine then some (.dat (.str (revS z))) else none
  | d => gRevL d
section
variable {X : Cx} {W : WX} {as : List Nat} {pos p p1 p2 p3 p4 : Pos}
theorem vals_of : ∀ {xs : List V} {us : List Value}, xs.length = us.length → (∀ (i : Nat) (x : V) (u : Value), xs[i]? = some x → us[i]? = some u → RelV x u) → Vals xs us
  | [], [], _, _ => .nil
  | [], _ :: _, h, _ => by simp at h
  | _ :: _, [], h, _ => by simp at h
  | x :: xs, u :: us, h, f => .cons (f 0 x u rfl rfl) (vals_of (by simpa using h) fun i a b h1 h2 => f (i + 1) a b (by simpa using h1) (by simpa using h2))
theorem chars_data {K : PySem.W.Frag} {H : Hp} : ∀ (cs : List Nat), IsAll K H (cs.map fun c => V.str ⟨#[c]⟩) (cs.map fun c => PyData.str ⟨#[c]⟩)
  | [] => .nil
  | c :: cs => .cons (.str _) (chars_data cs)
theorem br_listX (hc : X.calm = true) : BR X (.type "list") (g1 gListX) := by
  intro pins s σ H xs us Q I r h
  obtain ⟨ds, sv, po, e, q⟩ := h
  obtain ⟨d, ed, hd⟩ : ∃ d, ds = [d] ∧ gListX d = some sv := by
    unfold g1 at e
    split at e
    · exact ⟨_, rfl, e⟩
    · cases e
  subst ed
  cases d with
  | str z =>
    have hd : (if z.length ≤ sizeLine then some (SV.lst (z.cps.toList.map fun c => .str ⟨#[c]⟩)) else none) = some sv := hd
    · by_cases c : z.length ≤ sizeLine
      · rw [if_pos c] at hd
        cases hd
        cases po with
        | cons a t =>
          cases t
          cases a.str
          cases r with
          | cons rx rr =>
            cases rr
            obtain ⟨tk, rfl⟩ := rx
            refine call_list_str (I.ok.hd hc) z tk (fun h' tk' acc c' hk hS hi => ?_) c
            have hv : Vals (z.cps.toList.map fun c => V.str ⟨#[c]⟩) acc.toList := by
              refine vals_of (by simp [hi.1]) fun i x u h1 h2 => ?_
              obtain ⟨cc, u', e1, rfl⟩ := hi.2 i u (by simpa using h2)
              rw [List.getElem?_map, Array.getElem?_toList, e1] at h1
              cases h1
              exact ⟨u', rfl⟩
            refine ⟨.ref s.heap.objs.size, upd H s.heap.objs.size (.lst (z.cps.toList.map fun c => V.str ⟨#[c]⟩)), I.laid (t' := tk') hk (Nat.le_refl _) (show ObjOk X.prog X.w _ _ _ (.lst _) from ⟨?_, acc.toList, c', hv, by rw [Array.toArray_toList]; exact hS⟩), rfl, q _ _ (Res.lst (I.hok.fresh (Nat.le_refl _)) (chars_data _))⟩
            rw [List.length_map, Array.length_toList]
            exact c
      · rw [if_neg c] at hd; cases hd
  | list zs => exact br_list pins s σ H xs us Q I r ⟨_, sv, po, hd, q⟩
  | tuple zs => exact br_list pins s σ H xs us Q I r ⟨_, sv, po, hd, q⟩
  | none => exact br_list pins s σ H xs us Q I r ⟨_, sv, po, hd, q⟩
  | bool b => exact br_list pins s σ H xs us Q I r ⟨_, sv, po, hd, q⟩
  | int b => exact br_list pins s σ H xs us Q I r ⟨_, sv, po, hd, q⟩
  | dict b => exact br_list pins s σ H xs us Q I r ⟨_, sv, po, hd, q⟩
/-- z[::-1] -/
theorem pe_revS {e : Expr} {te : TE} {k : Nat} (he : PE X e te) : PE X (.Subscript e (.Slice none none (some (.UnaryOp .USub (.Constant (.int 1) k p1) p2)) p3) pos) (fun σ H Q => te σ H fun x H1 => ∃ z, x = .str z ∧ (revS z).length ≤ sizeLine ∧ Q (.str (revS z)) H1) := by
  refine ⟨fun pins s σ H Q I h => Subscript_ (thn (he.run pins s σ H _ I h) fun v s1 ⟨x, H1, I1, r1, z, ex, hz, q⟩ => ?_)⟩
  subst ex
  obtain ⟨t, rfl⟩ := r1
  have hst : PO X (some (.UnaryOp .USub (.Constant (.int 1) k p1) p2)) (tPart (tUn (rU fun i => .int (-i)) (tC (.int 1)))) := po_some (pe_un un_neg pe_int)
  refine wpAny_Slice (thn (po_none.run pins s1 σ H1 (fun o H2 => o = none ∧ H2 = H1) I1 ⟨rfl, rfl⟩) fun vl s2 ⟨l, H2, I2, pl, el, e2⟩ => ?_)
  subst el e2
  refine thn (po_none.run pins s2 σ H2 (fun o H3 => o = none ∧ H3 = H2) I2 ⟨rfl, rfl⟩) fun vu s3 ⟨u, H3, I3, pu, eu, e3⟩ => ?_
  subst eu e3
  refine thn (hst.run pins s3 σ H3 (fun o H4 => o = some (-1) ∧ H4 = H3) I3 ⟨1, rfl, -1, rfl, rfl, rfl⟩) fun vs s4 ⟨o, H4, I4, ps, eo, e4⟩ => ?_
  subst eo e4
  have I5 : Inv X pins σ H4 { s4 with heap := s4.heap.push { cls := .type "slice", data := .fields #[vl, vu, vs] } } := I4.kept (t' := s4.toks) fun b ob q => Heap.get?_push_of_some _ q
  cases pl
  cases pu
  cases ps with
  | int i tk =>
    show wpAny (model X.prog X.w) X.A (subscriptTail e (.Slice none none (some (.UnaryOp .USub (.Constant (.int 1) k p1) p2)) p3) (.str z t) (.ref s4.heap.objs.size)) (EP X pins σ Q) X.xe _
    refine tail_any (ops := [.str z t, .ref s4.heap.objs.size]) (typeIs_str _ z t) (PySem.F.slot_str_getitem.lookup) ?_ (by with_unfolding_all rfl)
    refine wpAny_getItem_str_slice (l := none) (u := none) (st := some (-1, tk)) ⟨_, Heap.get?_push_size _ rfl, rfl, rfl⟩ rfl ?_
    show (Made.str (revS z)).post _ _
    exact ⟨hz, .str (revS z), H4, I5.tok _, ⟨_, rfl⟩, q⟩
theorem se_rev {e : Expr} {m : M Opd} {k : Nat} (he : SE X W e m) : SE X W (.Subscript e (.Slice none none (some (.UnaryOp .USub (.Constant (.int 1) k p1) p2)) p3) pos) (eOp (g1 gRevX) [m]) := by
  refine ⟨fun pins s σ H Q I h => ?_⟩
  obtain ⟨H0, O0, T, δ, st, hm⟩ := h
  have same : ∀ {f : PyData → Option SV} {o : Opd} {δ1 : DS} {d : PyData}, m δ = .ok o δ1 → o.data δ1 = some d → eOp (g1 f) [m] δ = match f d with
      | some s => .ok (.val s) δ1
      | none => .bad := fun {f o δ1 d} e e' => by
    simp only [eOp, evs, bnd, ret, e, opN, datas, e', g1]
    cases f d <;> rfl
  cases e1 : m δ with
  | bad =>
    have : eOp (g1 gRevX) [m] δ = .bad := by simp only [eOp, evs, bnd, e1]
    rw [this] at hm
    exact hm.elim
  | exn x δ1 =>
    have h1 : eOp (g1 gRevX) [m] δ = .exn x δ1 := by simp only [eOp, evs, bnd, e1]
    have h2 : eOp (g1 gRevL) [m] δ = .exn x δ1 := by simp only [eOp, evs, bnd, e1]
    rw [h1] at hm
    exact (se_revL he).run pins s σ H Q I ⟨H0, O0, T, δ, st, by rw [h2]; exact hm⟩
  | ok o δ1 =>
    cases e2 : o.data δ1 with
    | none =>
      have : eOp (g1 gRevX) [m] δ = .bad := by simp only [eOp, evs, bnd, ret, e1, opN, datas, e2]
      rw [this] at hm
      exact hm.elim
    | some d =>
      have h1 := same (f := gRevX) e1 e2
      have h2 := same (f := gRevL) e1 e2
      rw [h1] at hm
      have other : gRevX d = gRevL d → wpAny (model X.prog X.w) X.A (eval (.Subscript e (.Slice none none (some (.UnaryOp .USub (.Constant (.int 1) k p1) p2)) p3) pos) X.env) (EP X pins σ Q) X.xe s := fun q =>
        (se_revL he).run pins s σ H Q I ⟨H0, O0, T, δ, st, by rw [h2, ← q]; exact hm⟩
      cases d with
      | str z =>
        refine (pe_revS he).run pins s σ H Q I ⟨H0, O0, T, δ, st, ?_⟩
        rw [e1]
        intro v H1 ov st1
        cases (opd_int ov st1 e2).str
        by_cases c : (revS z).length ≤ sizeLine
        · simp only [gRevX, if_pos c] at hm
          exact ⟨z, rfl, c, hm _ H1 True.intro (st1.drop.res (Res.same (.str _)))⟩
        · simp only [gRevX, if_neg c] at hm
      | list zs => exact other rfl
      | tuple zs => exact other rfl
      | none => exact other rfl
      | bool b => exact other rfl
      | int b => exact other rfl
      | dict b => exact other rfl
end
end Ev

/-! D27: running the values: the drawing functions of a law. -/
namespace Ev
noncomputable section
open PySem L2

section
variable {a b : M Flw} {δ δ' : DS} {v : SV} {x : Exn}
theorem sSeq_nx (h : a δ = .ok .nx δ') : sSeq a b δ = b δ' := by unfold sSeq bnd; rw [h]
theorem sSeq_rt (h : a δ = .ok (.rt v) δ') : sSeq a b δ = .ok (.rt v) δ' := by unfold sSeq bnd; rw [h]; rfl
theorem sSeq_ct (h : a δ = .ok .ct δ') : sSeq a b δ = .ok .ct δ' := by unfold sSeq bnd; rw [h]; rfl
theorem sSeq_exn (h : a δ = .exn x δ') : sSeq a b δ = .exn x δ' := by unfold sSeq bnd; rw [h]
theorem bnd_ok {α β : Type} {m : M α} {f : α → M β} {y : α} (h : m δ = .ok y δ') : bnd m f δ = f y δ' := by unfold bnd; rw [h]
theorem bnd_exn {α β : Type} {m : M α} {f : α → M β} (h : m δ = .exn x δ') : bnd m f δ = .exn x δ' := by unfold bnd; rw [h]
theorem sFor_ok {it : M (List PyData)} {g : TgD} {ds : List PyData} (h : it δ = .ok ds δ') : sFor it g b δ = forM g b ds δ' := bnd_ok h
theorem mIf_t {α : Type} {c : M Bool} {p q : M α} (h : c δ = .ok true δ') : mIf c p q δ = p δ' := (bnd_ok h).trans rfl
theorem mIf_f {α : Type} {c : M Bool} {p q : M α} (h : c δ = .ok false δ') : mIf c p q δ = q δ' := (bnd_ok h).trans rfl
theorem mWhile_no {t : M Bool} (h : t δ = .ok false δ') : mWhile t b δ = .ok .nx δ' := by rw [mWhile_eq, bnd_ok h]; rfl
theorem mWhile_go {t : M Bool} {δ1 : DS} (h : t δ = .ok true δ1) (h2 : b δ1 = .ok .nx δ') : mWhile t b δ = mWhile t b δ' := by
  rw [mWhile_eq, bnd_ok h]
  simp only [if_true]
  rw [bnd_ok h2]
  exact congrFun (mWhile_eq t b) δ'
theorem mWhile_rt {t : M Bool} {δ1 : DS} (h : t δ = .ok true δ1) (h2 : b δ1 = .ok (.rt v) δ') : mWhile t b δ = .ok (.rt v) δ' := by
  rw [mWhile_eq, bnd_ok h]
  simp only [if_true]
  rw [bnd_ok h2]
  rfl
theorem mWhile_exn {t : M Bool} {δ1 : DS} (h : t δ = .ok true δ1) (h2 : b δ1 = .exn x δ') : mWhile t b δ = .exn x δ' := by
  rw [mWhile_eq, bnd_ok h]
  simp only [if_true]
  rw [bnd_exn h2]
theorem fnOf_rt {np nl : Nat} {as : List Nat} {ss fin : List SV} (hl : ss.length = np) (hm : ((marks as 0 ss).all fun b => !b.1 || isDat b.2) = true) (h : a (ss.map some ++ List.replicate nl none) = .ok (.rt v) δ') (hf : fins (marks as 0 ss) δ' = some fin) : fnOf np nl as a ss = .ret v fin := by
  unfold fnOf
  rw [if_pos ⟨hl, hm⟩, h]
  simp [fnOut, hf]
theorem fnOf_exn {np nl : Nat} {as : List Nat} {ss fin : List SV} (hl : ss.length = np) (hm : ((marks as 0 ss).all fun b => !b.1 || isDat b.2) = true) (h : a (ss.map some ++ List.replicate nl none) = .exn x δ') (hf : fins (marks as 0 ss) δ' = some fin) : fnOf np nl as a ss = .exn x fin := by
  unfold fnOf
  rw [if_pos ⟨hl, hm⟩, h]
  simp [fnOut, hf]
theorem eComp_ok {it : M (List PyData)} {g : TgD} {t : M Bool} {e : M Opd} {vs : List Nat} {ds acc : List PyData} {δ1 : DS} (h : it δ = .ok ds δ1) (h2 : compM g t e vs ds [] δ1 = .ok acc δ') : eComp it g t e vs δ = .ok (.val (.lst acc)) (backD vs δ1 δ') := by
  unfold eComp
  rw [bnd_ok h, h2]
theorem sSet_ok {g : TgD} {m : M Opd} {δ1 : DS} (h : m δ = .ok (.val v) δ1) (h2 : g v δ1 = some δ') : sSet g m δ = .ok .nx δ' := by
  unfold sSet
  rw [bnd_ok h]
  simp [bnd, take, ret, asg, h2]
theorem sRet_ok {np : Nat} {m : M Opd} (h : m δ = .ok (.val v) δ') : sRet np m δ = .ok (.rt v) δ' := by
  unfold sRet
  rw [bnd_ok h]
  simp [bnd, leave, ret]
theorem eOp1 {f : List PyData → Option SV} {m : M Opd} {o : Opd} {d : PyData} {s : SV} (h : m δ = .ok o δ') (hd : o.data δ' = some d) (hf : f [d] = some s) : eOp f [m] δ = .ok (.val s) δ' := by
  simp [eOp, evs, bnd, h, ret, opN, datas, hd, hf]
theorem eOp2 {f : List PyData → Option SV} {m n : M Opd} {o o2 : Opd} {d d2 : PyData} {s : SV} {δ1 : DS} (h : m δ = .ok o δ1) (h2 : n δ1 = .ok o2 δ') (hd : o.data δ' = some d) (hd2 : o2.data δ' = some d2) (hf : f [d, d2] = some s) : eOp f [m, n] δ = .ok (.val s) δ' := by
  simp [eOp, evs, bnd, h, h2, ret, opN, datas, hd, hd2, hf]
end
theorem get_left (S : Src) : S.get "left" = some S.left := rfl
theorem get_mixed (S : Src) : S.get "mixed" = some S.mixed := rfl
theorem get_turn (S : Src) : S.get "turn" = some S.turn := rfl
theorem put_left (S : Src) (n : Int) : S.put "left" n = some { S with left := n } := rfl
theorem put_mixed (S : Src) (n : Int) : S.put "mixed" n = some { S with mixed := n } := rfl
theorem put_turn (S : Src) (n : Int) : S.put "turn" n = some { S with turn := n } := rfl
def tPick : M Bool := (tAnd (tOf (eOp (gB2 (gCmp .Gt)) [(eSlot 1), (eDat (.int 1))])) (tAnd (tOf (eOp (gB2 (gCmp .Lt)) [(eSrcGet "left" 0), (eDat (.int 2))])) (tOf (eOp (gB2 (gCmp .Gt)) [(eSrcLen 0), (eDat (.int 0))]))))
def bPick : M Flw := (sSrcSet "left" 0 (eSrcPop 0))
def rPick : M Flw := 
 (sSeq (sSet (gName 2) (eSrcGet "left" 0))
 (sSeq (mIf (tOr (tOf (eOp (gB2 (gCmp .Lt)) [(eSlot 1), (eDat (.int 2))])) (tOf (eOp (gB2 (gCmp .Gt)) [(eSlot 2), (eDat (.int 1))])))
 (sSeq (sSrcSet "left" 0 (eOp (g2 (gBin .FloorDiv)) [(eSlot 2), (eOp (g2 gMax) [(eDat (.int 1)), (eSlot 1)])]))
 (sRet 2 (eOp (g2 (gBin .Mod)) [(eOp (g1 gInt) [(eSlot 2)]), (eOp (g2 gMax) [(eDat (.int 1)), (eSlot 1)])])))
 (ret .nx))
 (sSeq (sSrcSet "turn" 0 (eOp (g2 (gBin .Add)) [(eSrcGet "turn" 0), (eDat (.int 1))]))
 (sSeq (sSet (gName 3) (eOp (g2 (gBin .Mod)) [(eOp (g1 gInt) [(eOp (g2 (gBin .Add)) [(eSrcGet "mixed" 0), (eOp (g2 (gBin .Mult)) [(eSrcGet "turn" 0), (eDat (.int 104729))])])]), (eDat (.int 998244353))]))
 (sSeq (sSet (gName 3) (eOp (g2 (gBin .Mod)) [(eOp (g1 gInt) [(eOp (g2 (gBin .Add)) [(eOp (g2 (gBin .Mult)) [(eSlot 3), (eSlot 3)]), (eOp (g2 (gBin .Mult)) [(eSrcGet "turn" 0), (eDat (.int 17))])])]), (eDat (.int 2147483647))]))
 (sSeq (sSrcSet "mixed" 0 (eSlot 3))
 (sRet 2 (eOp (g2 (gBin .Mod)) [(eOp (g1 gInt) [(eOp (g2 (gBin .FloorDiv)) [(eSlot 3), (eDat (.int 16))])]), (eSlot 1)]))))))))
def mPick : M Flw := sSeq (mWhile tPick bPick) rPick
def fPick : FN := fnOf 2 2 [2, 3] mPick
theorem runPick : ∀ (n : Nat) (S : Src) (k : Int), S.cells.length = n → ∃ S' : Src, mWhile tPick bPick [some (.src S), some (.dat (.int k)), none, none] = .ok .nx [some (.src S'), some (.dat (.int k)), none, none]
  | n, S, k, hn => by
    rw [mWhile_eq]
    by_cases h1 : 1 < k
    · by_cases h2 : S.left < 2
      · cases n with
        | zero =>
          refine ⟨S, ?_⟩
          simp [tPick, tAnd, tOf, eOp, evs, bnd, eSlot, at?, ret, eDat, opN, datas, Opd.data, SV.data, gB2, gCmp, truth, truthy, eSrcGet, srcAt, get_left, eSrcLen, h1, h2, hn]
        | succ n =>
          have e : S.cells[S.cells.length - 1]? = some (S.cells[S.cells.length - 1]'(by omega)) := List.getElem?_eq_getElem _
          obtain ⟨S', hs⟩ := runPick n { S with left := S.cells[S.cells.length - 1]'(by omega), cells := S.cells.dropLast } k (by simp [hn])
          refine ⟨S', ?_⟩
          rw [← hs]
          simp [tPick, tAnd, tOf, eOp, evs, bnd, eSlot, at?, ret, eDat, opN, datas, Opd.data, SV.data, gB2, gCmp, truth, truthy, eSrcGet, srcAt, get_left, eSrcLen, h1, h2, hn, bPick, sSrcSet, eSrcPop, put_left]
      · refine ⟨S, ?_⟩
        simp [tPick, tAnd, tOf, eOp, evs, bnd, eSlot, at?, ret, eDat, opN, datas, Opd.data, SV.data, gB2, gCmp, truth, truthy, eSrcGet, srcAt, get_left, eSrcLen, h1, h2, hn]
    · refine ⟨S, ?_⟩
      simp [tPick, tAnd, tOf, eOp, evs, bnd, eSlot, at?, ret, eDat, opN, datas, Opd.data, SV.data, gB2, gCmp, truth, truthy, h1]
theorem pick_ok (S : Src) (k : Int) (h1 : 1 ≤ k) (h2 : k < 1073741824) : ∃ (S' : Src) (i : Int), fPick [.src S, .dat (.int k)] = .ret (.dat (.int i)) [.src S', .dat (.int k)] ∧ 0 ≤ i ∧ i < k := by
  obtain ⟨S1, hw⟩ := runPick _ S k rfl
  have hm : (if k > 1 then k else 1) = k := by split <;> omega
  by_cases c : k < 2 ∨ 1 < S1.left
  · refine ⟨{ S1 with left := S1.left / k }, S1.left % k, ?_, Int.emod_nonneg _ (by omega), Int.emod_lt_of_pos _ (by omega)⟩
    have hp : 0 < k := by omega
    rcases Decidable.em (k < 2) with c1 | c1 <;>
    simp [fPick, fnOf, marks, isDat, mPick, sSeq, bnd, hw, rPick, sSet, gName, asg, eSrcGet, srcAt, at?, get_left, put_left, take, ret, mIf, tOr, tOf, eOp, evs, eSlot, eDat, opN, datas, Opd.data, SV.data, gB2, gCmp, truth, truthy, c1, c.resolve_left, sSrcSet, g2, gBin, gDiv, gMod, gMax, g1, gInt, hm, hp, h2, sRet, leave, fnOut, fins]
    all_goals simp [c.resolve_left c1, sSeq, bnd, sSrcSet, eOp, evs, eSlot, eDat, at?, ret, opN, datas, Opd.data, SV.data, g2, gBin, gDiv, gMod, gMax, g1, gInt, hm, hp, h2, sRet, leave, fnOut, fins, srcAt, put_left]
  · have c1 : ¬ k < 2 := fun q => c (.inl q)
    have c2 : ¬ 1 < S1.left := fun q => c (.inr q)
    have hp : 0 < k := by omega
    refine ⟨?_, ?_, ?_, ?_, ?_⟩
    · exact { S1 with turn := S1.turn + 1, mixed := ((S1.mixed + (S1.turn + 1) * 104729) % 998244353 * ((S1.mixed + (S1.turn + 1) * 104729) % 998244353) + (S1.turn + 1) * 17) % 2147483647 }
    · exact ((((S1.mixed + (S1.turn + 1) * 104729) % 998244353 * ((S1.mixed + (S1.turn + 1) * 104729) % 998244353) + (S1.turn + 1) * 17) % 2147483647) / 16) % k
    · have m1 : ∀ i : Int, gMul (.int i) (.int 104729) = some (.dat (.int (i * 104729))) := fun i => if_pos (.inr (by decide))
      have m2 : ∀ i : Int, gMul (.int i) (.int 17) = some (.dat (.int (i * 17))) := fun i => if_pos (.inr (by decide))
      have m3 : ∀ j : Int, gMul (.int (j % 998244353)) (.int (j % 998244353)) = some (.dat (.int (j % 998244353 * (j % 998244353)))) := fun j => if_pos (.inl (by omega))
      simp [fPick, fnOf, marks, isDat, mPick, sSeq, bnd, hw, rPick, sSet, gName, asg, eSrcGet, srcAt, at?, get_left, get_turn, get_mixed, put_left, put_turn, put_mixed, take, ret, mIf, tOr, tOf, eOp, evs, eSlot, eDat, opN, datas, Opd.data, SV.data, gB2, gCmp, truth, truthy, c1, c2, sSrcSet, g2, gBin, gDiv, gMod, gMax, gAdd, m1, m2, m3, g1, gInt, hm, hp, h2, sRet, leave, fnOut, fins]
    · exact Int.emod_nonneg _ (by omega)
    · exact Int.emod_lt_of_pos _ (by omega)
def mOf : M Flw := (sRet 2 (eOp (g2 gIdx) [(eSlot 1), (eCall fPick (evs [(eSlot 0), (eOp (g1 gLen) [(eSlot 1)])]))]))
def fOf : FN := fnOf 2 0 [] mOf
theorem atI_in {α : Type} (xs : List α) {i : Int} (h0 : 0 ≤ i) (h1 : i < xs.length) : ∃ x, atI xs i = some x ∧ x ∈ xs := by
  have hl : i.toNat < xs.length := by omega
  refine ⟨xs[i.toNat], ?_, List.getElem_mem _⟩
  simp [atI, ixN, h0, h1, hl]
theorem of_lst (S : Src) (ds : List PyData) (h1 : 1 ≤ ds.length) (h2 : ds.length < 1073741824) : ∃ (S' : Src) (d : PyData), fOf [.src S, .lst ds] = .ret (.dat d) [.src S', .lst ds] ∧ d ∈ ds := by
  obtain ⟨S', i, e, i0, i1⟩ := pick_ok S ds.length (by omega) (by omega)
  obtain ⟨d, ed, hd⟩ := atI_in ds i0 i1
  refine ⟨S', d, ?_, hd⟩
  simp [fOf, fnOf, marks, mOf, sRet, bnd, eOp, evs, eSlot, at?, ret, opN, datas, Opd.data, SV.data, g1, gLen, eCall, mCall, lends, lend, e, give, g2, gIdx, ed, leave, fnOut, fins]
def mSource : M Flw :=
 (sSeq (sSet (gName 1) (eDat (.int 11)))
 (sSeq (sFor (itScr 0) (gName 2)
 (sSet (gName 1) (eOp (g2 (gBin .Mod)) [(eOp (g1 gInt) [(eOp (g2 (gBin .Add)) [(eOp (g2 (gBin .Add)) [(eOp (g2 (gBin .Mult)) [(eSlot 1), (eDat (.int 69069))]), (eOp (g2 (gBin .Mult)) [(eSlot 2), (eDat (.int 31))])]), (eDat (.int 5))])]), (eDat (.int 2147483629))])))
 (sRet 1 (eSrcNew (eOp (g1 gRevX) [(eComp (itScr 0) (gName 2) (ret true) (eOp (g1 gAbs) [(eSlot 2)]) [2])]) (eSlot 1)))))
def fSource : FN := fnOf 1 2 [1, 2] mSource
theorem srcFor (ns : List Int) : ∀ (xs : List Int) (m : Int) (o : Option SV), ∃ (m' : Int) (o' : Option SV), forM (gName 2) (sSet (gName 1) (eOp (g2 (gBin .Mod)) [(eOp (g1 gInt) [(eOp (g2 (gBin .Add)) [(eOp (g2 (gBin .Add)) [(eOp (g2 (gBin .Mult)) [(eSlot 1), (eDat (.int 69069))]), (eOp (g2 (gBin .Mult)) [(eSlot 2), (eDat (.int 31))])]), (eDat (.int 5))])]), (eDat (.int 2147483629))])) (xs.map PyData.int) [some (.scr ns), some (.dat (.int m)), o] = .ok .nx [some (.scr ns), some (.dat (.int m')), o']
  | [], m, o => ⟨m, o, rfl⟩
  | x :: xs, m, o => by
    obtain ⟨m', o', e⟩ := srcFor ns xs ((m * 69069 + x * 31 + 5) % 2147483629) (some (.dat (.int x)))
    refine ⟨m', o', ?_⟩
    rw [← e]
    have m1 : ∀ i : Int, gMul (.int i) (.int 69069) = some (.dat (.int (i * 69069))) := fun i => if_pos (.inr (by decide))
    have m2 : ∀ i : Int, gMul (.int i) (.int 31) = some (.dat (.int (i * 31))) := fun i => if_pos (.inr (by decide))
    simp [forM, bnd, asg, gName, sSet, eOp, evs, eSlot, at?, ret, eDat, opN, datas, Opd.data, SV.data, g2, gBin, m1, m2, gAdd, g1, gInt, gMod, take]
theorem srcComp (ns : List Int) (m : Int) : ∀ (xs : List Int) (acc : List Int) (o : Option SV), acc.length + xs.length ≤ sizeLine → ∃ (cs : List Int) (o' : Option SV), compM (gName 2) (ret true) (eOp (g1 gAbs) [(eSlot 2)]) [2] (xs.map PyData.int) (acc.map PyData.int) [some (.scr ns), some (.dat (.int m)), o] = .ok (cs.map PyData.int) [some (.scr ns), some (.dat (.int m)), o']
  | [], acc, o, _ => ⟨acc, o, rfl⟩
  | x :: xs, acc, o, h => by
    have hl : acc.length < sizeLine := by simp at h; omega
    obtain ⟨cs, o', e⟩ := srcComp ns m xs (acc ++ [if x < 0 then -x else x]) (some (.dat (.int x))) (by simp at h ⊢; omega)
    refine ⟨cs, o', ?_⟩
    rw [← e]
    simp [compM, bnd, asg, gName, wipeD, eOp, evs, eSlot, at?, ret, opN, datas, Opd.data, SV.data, g1, gAbs, takeD, take, hl]
theorem intsD_map : ∀ cs : List Int, intsD (cs.map PyData.int) = some cs
  | [] => rfl
  | c :: cs => by simp [intsD, intsD_map cs]
theorem eSrcNew_ok {mc mm : M Opd} {δ δ1 δ' : DS} {cs : List Int} {n : Int} (h : mc δ = .ok (.val (.lst (cs.map PyData.int))) δ1) (h2 : mm δ1 = .ok (.val (.dat (.int n))) δ') : eSrcNew mc mm δ = .ok (.val (.src ⟨cs, 1, n, 0⟩)) δ' := by
  simp only [eSrcNew, bnd, h, h2, intsD_map]
theorem source_ok (ns : List Int) (h : ns.length ≤ 63) : ∃ S : Src, fSource [.scr ns] = .ret (.src S) [.scr ns] := by
  obtain ⟨m', o', e⟩ := srcFor ns ns 11 none
  obtain ⟨cs, o2, e2⟩ := srcComp ns m' ns [] o' (by rw [sizeLine_eq]; simp; omega)
  refine ⟨⟨cs.reverse, 1, m', 0⟩, ?_⟩
  have e2' : compM (gName 2) (ret true) (eOp (g1 gAbs) [(eSlot 2)]) [2] (ns.map PyData.int) [] [some (.scr ns), some (.dat (.int m')), o'] = .ok (cs.map PyData.int) [some (.scr ns), some (.dat (.int m')), o2] := e2
  have er : gRevX (.list (cs.map PyData.int)) = some (.lst ((cs.reverse).map PyData.int)) := by simp [gRevX, gRevL]
  refine fnOf_rt rfl rfl (δ' := [some (.scr ns), some (.dat (.int m')), at? [some (.scr ns), some (.dat (.int m')), o'] 2]) ?_ rfl
  refine (sSeq_nx (sSet_ok (v := .dat (.int 11)) rfl rfl)).trans ?_
  refine (sSeq_nx ((sFor_ok (δ' := [some (.scr ns), some (.dat (.int 11)), none]) (ds := ns.map PyData.int) rfl).trans e)).trans ?_
  refine sRet_ok ?_
  have e3 := eComp_ok (it := itScr 0) (δ := [some (.scr ns), some (.dat (.int m')), o']) (ds := ns.map PyData.int) rfl e2'
  have e4 : eOp (g1 gRevX) [eComp (itScr 0) (gName 2) (ret true) (eOp (g1 gAbs) [(eSlot 2)]) [2]] [some (.scr ns), some (.dat (.int m')), o'] = .ok (Opd.val (.lst (cs.reverse.map PyData.int))) [some (.scr ns), some (.dat (.int m')), at? [some (.scr ns), some (.dat (.int m')), o'] 2] := eOp1 e3 rfl er
  exact eSrcNew_ok e4 rfl
end
end Ev

/-! D28: texts by their signs: the one at a place, whether it is among others, how far a run goes. -/
namespace Ev
noncomputable section
open PySem L2

def inS (S cs : List Nat) (p : Nat) : Bool := match cs[p]? with
  | some c => S.contains c
  | none => false
def scan (S cs : List Nat) (p : Nat) : Nat := p + ((cs.drop p).takeWhile fun c => S.contains c).length
theorem scan_in {S cs : List Nat} {p : Nat} (h : inS S cs p = true) : scan S cs p = scan S cs (p + 1) := by
  unfold inS at h
  split at h
  · rename_i c e
    obtain ⟨hp, ec⟩ := List.getElem?_eq_some_iff.mp e
    unfold scan
    rw [List.drop_eq_getElem_cons hp, List.takeWhile_cons, ec, h]
    simp
    omega
  · cases h
theorem scan_out {S cs : List Nat} {p : Nat} (h : inS S cs p = false) : scan S cs p = p := by
  unfold inS at h
  unfold scan
  split at h
  · rename_i c e
    obtain ⟨hp, ec⟩ := List.getElem?_eq_some_iff.mp e
    rw [List.drop_eq_getElem_cons hp, List.takeWhile_cons, ec, h]
    simp
  · rename_i e
    have := List.getElem?_eq_none_iff.mp e
    rw [List.drop_eq_nil_of_le this]
    simp
theorem scan_le {S cs : List Nat} {p : Nat} (h : p ≤ cs.length) : p ≤ scan S cs p ∧ scan S cs p ≤ cs.length := by
  unfold scan
  have : ((cs.drop p).takeWhile fun c => S.contains c).length ≤ (cs.drop p).length := (List.takeWhile_sublist _).length_le
  simp at this
  simp
  omega
theorem while_scan {t : M Bool} {b : M Flw} {S cs : List Nat} (f : Nat → DS) (ht : ∀ p, p ≤ cs.length → t (f p) = .ok (inS S cs p) (f p)) (hb : ∀ p, p < cs.length → b (f p) = .ok .nx (f (p + 1))) :
    ∀ (n p : Nat), cs.length - p = n → p ≤ cs.length → mWhile t b (f p) = .ok .nx (f (scan S cs p)) := by
  intro n
  induction n with
  | zero =>
    intro p hn hp
    have e : inS S cs p = false := by unfold inS; rw [List.getElem?_eq_none (by omega)]
    rw [scan_out e]
    exact mWhile_no (by rw [ht p hp, e])
  | succ n ih =>
    intro p hn hp
    cases e : inS S cs p with
    | false => rw [scan_out e]; exact mWhile_no (by rw [ht p hp, e])
    | true => rw [scan_in e, mWhile_go (by rw [ht p hp, e]) (hb p (by omega))]; exact ih (p + 1) (by omega) (by omega)
theorem in_one (c : Nat) (y : Str) : in? (.str ⟨#[c]⟩) (.str y) = some (y.cps.toList.contains c) := by
  show some (!(Builtin.Str.occurrences y ⟨#[c]⟩ 0 y.length 1).isEmpty) = _
  rw [PySem.StrLaws.found_one]
  simp
/-- a text of signs that are signs, not too long -/
structure Fair (z : Str) : Prop where
  len : z.length ≤ 1000
  ok : ∀ c ∈ z.cps.toList, c < 0x110000
theorem Fair.line {z : Str} (h : Fair z) : z.length ≤ sizeLine := by rw [sizeLine_eq]; have := h.len; omega
theorem strLen (z : Str) : z.length = z.cps.toList.length := by show z.cps.size = _; simp
theorem idx_at {z : Str} (h : Fair z) {p c : Nat} (hc : z.cps.toList[p]? = some c) : gIdx (.str z) (.int p) = some (.dat (.str ⟨#[c]⟩)) := by
  have hp := (List.getElem?_eq_some_iff.mp hc).1
  unfold gIdx
  simp only [if_pos h.line]
  have e : atI z.cps.toList (p : Int) = some c := by
    simp only [atI, ixN]
    rw [if_pos (by omega), if_pos (by omega)]
    simpa using hc
  rw [e]; rfl
theorem len_of {z : Str} (h : Fair z) : gLen (.str z) = some (.dat (.int (z.cps.toList.length : Nat))) := by
  unfold gLen
  simp only [if_pos h.line]
  rw [strLen]
theorem eq_one {c d : Nat} (h : c < 0x110000) (h2 : d < 0x110000) : eq? (.str ⟨#[c]⟩) (.str ⟨#[d]⟩) = some (decide (c = d)) := by
  have e : PyData.eqv (.str ⟨#[c]⟩) (.str ⟨#[d]⟩) = decide (c = d) := by
    show ((⟨#[c]⟩ : Str) == ⟨#[d]⟩) = decide (c = d)
    by_cases q : c = d
    · subst q; simp
    · rw [decide_eq_false q]
      apply beq_eq_false_iff_ne.mpr
      intro z
      exact q (by simpa using z)
  have l1 : PyData.canLay0 (.str ⟨#[c]⟩) = true := by simp [PyData.canLay0, PyData.strOk, h]
  have l2 : PyData.canLay0 (.str ⟨#[d]⟩) = true := by simp [PyData.canLay0, PyData.strOk, h2]
  unfold eq?
  rw [l1, l2, e]
  simp [PyData.depth]
theorem eq_same (d : PyData) (h : d.canLay0 = true) (h2 : d.depth ≤ 64) : eq? d d = some true := by
  unfold eq?
  rw [h, SeqAt.eqv_refl d h]
  simp [h2]
/-- z[p:q] -/
def cutN (z : Str) (p q : Nat) : Str := ⟨((z.cps.toList.drop p).take (q - p)).toArray⟩
theorem cut_at {z : Str} (h : Fair z) {p q : Nat} (hp : p ≤ q) (hq : q ≤ z.cps.toList.length) : gCut (some (p : Int)) (some (q : Int)) (.str z) = some (.dat (.str (cutN z p q))) := by
  unfold gCut
  simp only [if_pos h.line, cutS, HT.sIx_nat]
  rw [strLen, Nat.min_eq_left (by omega), Nat.min_eq_left (by omega)]
  rfl
theorem cut_len {z : Str} {p q : Nat} (hp : p ≤ q) (hq : q ≤ z.cps.toList.length) : (cutN z p q).cps.toList.length = q - p := by
  simp [cutN]
  simp at hq
  omega
theorem cut_fair {z : Str} (h : Fair z) (p q : Nat) : Fair (cutN z p q) := by
  have hl := h.len
  rw [strLen] at hl
  refine ⟨?_, fun c hc => h.ok c ?_⟩
  · rw [strLen]
    simp [cutN]
    simp at hl
    omega
  · simp only [cutN] at hc
    exact List.mem_of_mem_drop (List.mem_of_mem_take (by simpa using hc))
section
variable {δ δ1 δ2 δ3 δ' : DS} {d d1 d2 d3 : PyData}
theorem eTup3 {a b c : M Opd} (h1 : a δ = .ok (.val (.dat d1)) δ1) (h2 : b δ1 = .ok (.val (.dat d2)) δ2) (h3 : c δ2 = .ok (.val (.dat d3)) δ') : eTup [(false, a), (false, b), (false, c)] δ = .ok (.val (.dat (.tuple [d1, d2, d3]))) δ' := by
  have e : 3 ≤ sizeLine := by rw [sizeLine_eq]; decide
  simp [eTup, evS, bnd, h1, h2, h3, ret, takes, takeD, take, SV.data, e]
theorem eTup2 {a b : M Opd} {s : SV} (h1 : a δ = .ok (.val (.dat d1)) δ1) (h2 : b δ1 = .ok (.val s) δ') (h3 : s.data = some d2) : eTup [(false, a), (false, b)] δ = .ok (.val (.dat (.tuple [d1, d2]))) δ' := by
  have e : 2 ≤ sizeLine := by rw [sizeLine_eq]; decide
  simp [eTup, evS, bnd, h1, h2, ret, takes, takeD, take, show SV.data (.dat d1) = some d1 from rfl, e, h3]
theorem eLst1 {a : M Opd} (h1 : a δ = .ok (.val (.dat d1)) δ') : eLst [(false, a)] δ = .ok (.val (.lst [d1])) δ' := by
  have e : 1 ≤ sizeLine := by rw [sizeLine_eq]; decide
  simp [eLst, evS, bnd, h1, ret, takes, takeD, take, SV.data, e]
theorem eCut_ok {a l h : M Opd} {i j : Int} {s : SV} (ha : a δ = .ok (.val (.dat d)) δ1) (hl : l δ1 = .ok (.val (.dat (.int i))) δ2) (hh : h δ2 = .ok (.val (.dat (.int j))) δ') (hg : gCut (some i) (some j) d = some s) : eCut a (some l) (some h) δ = .ok (.val s) δ' := by
  simp [eCut, bnd, ha, partM, intO, hl, hh, Opd.data, SV.data, ret, opN, datas, g1, hg]
theorem lends_vals {δ : DS} : ∀ (ds : List PyData), lends (vals ds) δ = .ok (ds.map SV.dat) δ
  | [] => rfl
  | d :: ds => by
    have := lends_vals (δ := δ) ds
    simp only [vals, List.map_cons] at this ⊢
    simp [lends, lend, bnd, ret, this]
theorem give_vals {δ : DS} : ∀ (ds : List PyData) (fin : List SV), give (vals ds) fin δ = δ
  | [], [] => rfl
  | [], _ :: _ => rfl
  | d :: ds, [] => rfl
  | d :: ds, s :: ss => give_vals ds ss
theorem eCall_ok {F : FN} {m : M (List Opd)} {r : SV} {fin : List SV} {ds : List PyData} (h : m δ = .ok (vals ds) δ') (e : F (ds.map SV.dat) = .ret r fin) : eCall F m δ = .ok (.val r) δ' := by
  unfold eCall
  rw [bnd_ok h]
  unfold mCall
  rw [bnd_ok (lends_vals ds), e]
  simp only [give_vals]
theorem eCall_exn {F : FN} {m : M (List Opd)} {x : Exn} {fin : List SV} {ds : List PyData} (h : m δ = .ok (vals ds) δ') (e : F (ds.map SV.dat) = .exn x fin) : eCall F m δ = .exn x δ' := by
  unfold eCall
  rw [bnd_ok h]
  unfold mCall
  rw [bnd_ok (lends_vals ds), e]
  simp only [give_vals]
theorem cat_small {x y : Str} (h : x.length + y.length ≤ 100000) : gAdd (.str x) (.str y) = some (.dat (.str (x ++ y))) := by
  show cat? x y = _
  unfold cat?
  rw [if_pos (by rw [sizeLine_eq]; omega)]
theorem eq_int (i j : Int) : eq? (.int i) (.int j) = some (decide (i = j)) := by
  unfold eq?
  simp only [PyData.canLay0, PyData.depth, PyData.eqv]
  simp
  by_cases h : i = j <;> simp [h]
end
end
end Ev

/-! D29: what runs where little stands, runs alike where more stands. -/
namespace Ev
noncomputable section
open PySem L2

structure Le (J : List Nat) (B : Nat → Option SV) (δ δ2 : DS) : Prop where
  len : δ2.length = δ.length
  le : ∀ i s, at? δ i = some s → at? δ2 i = some s
  pr : ∀ i ∈ J, at? δ i = none ∧ at? δ2 i = B i
variable {J : List Nat} {B : Nat → Option SV}
theorem Le.free {δ δ2 : DS} (h : Le J B δ δ2) {i : Nat} {s : SV} (e : at? δ i = some s) : i ∉ J := fun q => by rw [(h.pr i q).1] at e; cases e
theorem at_set (δ : DS) (i j : Nat) (o : Option SV) : at? (δ.set i o) j = if i = j ∧ i < δ.length then o else at? δ j := by
  unfold at?
  rw [List.getElem?_set]
  by_cases h : i = j
  · subst h
    by_cases l : i < δ.length
    · simp [l]
    · simp [l]
  · simp [h]
theorem Le.set {δ δ2 : DS} (h : Le J B δ δ2) {i : Nat} (hi : i ∉ J) {o o2 : Option SV} (ho : ∀ s, o = some s → o2 = some s) : Le J B (δ.set i o) (δ2.set i o2) := by
  refine ⟨by simp [h.len], fun j s e => ?_, fun j hj => ?_⟩
  · rw [at_set] at e ⊢
    rw [h.len]
    split at e
    · rename_i c; rw [if_pos c]; exact ho s e
    · rename_i c; rw [if_neg c]; exact h.le j s e
  · have n : ¬ (i = j ∧ i < δ.length) := fun c => hi (c.1 ▸ hj)
    have n2 : ¬ (i = j ∧ i < δ2.length) := fun c => hi (c.1 ▸ hj)
    rw [at_set, at_set, if_neg n, if_neg n2]
    exact h.pr j hj
theorem Le.set1 {δ δ2 : DS} (h : Le J B δ δ2) {i : Nat} (hi : i ∉ J) (o : Option SV) : Le J B (δ.set i o) (δ2.set i o) := h.set hi fun _ e => e
def MoR (J : List Nat) (B : Nat → Option SV) {α : Type} (r r2 : R α) : Prop := match r with
  | .ok a δ' => ∃ δ2', r2 = .ok a δ2' ∧ Le J B δ' δ2'
  | .exn x δ' => ∃ δ2', r2 = .exn x δ2' ∧ Le J B δ' δ2'
  | .bad => True
def Mo (J : List Nat) (B : Nat → Option SV) {α : Type} (m : M α) : Prop := ∀ δ δ2, Le J B δ δ2 → MoR J B (m δ) (m δ2)
theorem mo_ret {α : Type} (a : α) : Mo J B (ret a) := fun δ δ2 h => ⟨δ2, rfl, h⟩
theorem mo_stuck {α : Type} : Mo J B (stuck (α := α)) := fun δ δ2 h => trivial
theorem mo_bnd {α β : Type} {m : M α} {f : α → M β} (hm : Mo J B m) (hf : ∀ a, Mo J B (f a)) : Mo J B (bnd m f) := by
  intro δ δ2 h
  have := hm δ δ2 h
  unfold bnd
  cases e : m δ with
  | bad => trivial
  | exn x δ' => rw [e] at this; obtain ⟨δ2', e2, l⟩ := this; rw [e2]; exact ⟨δ2', rfl, l⟩
  | ok a δ' => rw [e] at this; obtain ⟨δ2', e2, l⟩ := this; rw [e2]; exact hf a δ' δ2' l
theorem mo_ok {α : Type} {m : M α} (hm : Mo J B m) {δ δ2 δ' : DS} {a : α} (l : Le J B δ δ2) (h : m δ = .ok a δ') : ∃ δ2', m δ2 = .ok a δ2' ∧ Le J B δ' δ2' := by
  have := hm δ δ2 l
  rw [h] at this
  exact this
/-- a function of the state that reads only -/
theorem mo_read {α β : Type} {g : DS → Option α} {k : α → M β} (hg : ∀ δ δ2, Le J B δ δ2 → ∀ a, g δ = some a → g δ2 = some a) (hk : ∀ a, Mo J B (k a)) {m : M β} (hm : ∀ δ, m δ = match g δ with
    | some a => k a δ
    | none => .bad) : Mo J B m := by
  intro δ δ2 h
  rw [hm δ, hm δ2]
  cases e : g δ with
  | none => trivial
  | some a => rw [hg δ δ2 h a e]; exact hk a δ δ2 h
theorem opd_le {δ δ2 : DS} (h : Le J B δ δ2) (o : Opd) (d : PyData) (e : o.data δ = some d) : o.data δ2 = some d := by
  cases o with
  | val s => exact e
  | slot i =>
    obtain ⟨s, e1, e2⟩ := Option.bind_eq_some_iff.mp (show (at? δ i).bind SV.data = some d from e)
    show (at? δ2 i).bind SV.data = some d
    rw [h.le i s e1]; exact e2
theorem datas_le {δ δ2 : DS} (h : Le J B δ δ2) : ∀ (os : List Opd) (ds : List PyData), datas δ os = some ds → datas δ2 os = some ds
  | [], ds, e => e
  | o :: os, ds, e => by
    unfold datas at e ⊢
    cases e1 : o.data δ with
    | none => rw [e1] at e; cases e
    | some d =>
      rw [e1] at e
      rw [opd_le h o d e1]
      simp only at e ⊢
      cases e2 : datas δ os with
      | none => rw [e2] at e; cases e
      | some ds' => rw [e2] at e; rw [datas_le h os ds' e2]; exact e
theorem mo_opN (f : List PyData → Option SV) (os : List Opd) : Mo J B (opN f os) := by
  intro δ δ2 h
  unfold opN
  cases e : datas δ os with
  | none => trivial
  | some ds =>
    rw [datas_le h os ds e]
    simp only
    cases f ds with
    | none => trivial
    | some s => exact ⟨δ2, rfl, h⟩
theorem mo_eDat (d : PyData) : Mo J B (eDat d) := mo_ret _
theorem mo_eSlot (i : Nat) : Mo J B (eSlot i) := by
  intro δ δ2 h
  unfold eSlot
  cases e : at? δ i with
  | none => trivial
  | some s => rw [h.le i s e]; cases s <;> exact ⟨δ2, rfl, h⟩
theorem mo_take (o : Opd) : Mo J B (take o) := by
  cases o with
  | val s => exact mo_ret s
  | slot i =>
    intro δ δ2 h
    show MoR J B (match (at? δ i).bind SV.data with
      | some d => R.ok (SV.dat d) (δ.set i (some (.dat d)))
      | none => .bad) (match (at? δ2 i).bind SV.data with
      | some d => R.ok (SV.dat d) (δ2.set i (some (.dat d)))
      | none => .bad)
    cases e : at? δ i with
    | none => simp only [Option.bind_none]; trivial
    | some s =>
      rw [h.le i s e]
      simp only [Option.bind_some]
      cases s.data with
      | none => trivial
      | some d => exact ⟨_, rfl, h.set1 (h.free e) _⟩
theorem mo_takeD (o : Opd) : Mo J B (takeD o) := mo_bnd (mo_take o) fun s => by cases s.data with
  | none => exact mo_stuck
  | some d => exact mo_ret d
theorem mo_takes : ∀ os : List Opd, Mo J B (takes os)
  | [] => mo_ret _
  | o :: os => mo_bnd (mo_takeD o) fun d => mo_bnd (mo_takes os) fun ds => mo_ret _
/-- each of a row -/
inductive MoA (J : List Nat) (B : Nat → Option SV) : List (M Opd) → Prop where
  | nil : MoA J B []
  | cons {m : M Opd} {ms : List (M Opd)} : Mo J B m → MoA J B ms → MoA J B (m :: ms)
theorem mo_evs {ms : List (M Opd)} (h : MoA J B ms) : Mo J B (evs ms) := by
  induction h with
  | nil => exact mo_ret _
  | cons a _ ih => exact mo_bnd a fun o => mo_bnd ih fun os => mo_ret _
theorem mo_eOp {f : List PyData → Option SV} {ms : List (M Opd)} (h : MoA J B ms) : Mo J B (eOp f ms) := mo_bnd (mo_evs h) fun os => mo_opN f os
inductive MoS (J : List Nat) (B : Nat → Option SV) : List (Bool × M Opd) → Prop where
  | nil : MoS J B []
  | cons {m : M Opd} {ms : List (Bool × M Opd)} : Mo J B m → MoS J B ms → MoS J B ((false, m) :: ms)
theorem mo_evS {ms : List (Bool × M Opd)} (h : MoS J B ms) : Mo J B (evS ms) := by
  induction h with
  | nil => exact mo_ret _
  | cons a _ ih => exact mo_bnd a fun o => mo_bnd ih fun os => mo_ret _
theorem mo_if {α : Type} {c : Prop} [Decidable c] {a b : M α} (ha : Mo J B a) (hb : Mo J B b) : Mo J B (if c then a else b) := by split <;> assumption
theorem mo_eTup {ms : List (Bool × M Opd)} (h : MoS J B ms) : Mo J B (eTup ms) := mo_bnd (mo_evS h) fun os => mo_bnd (mo_takes os) fun ds => mo_if (mo_ret _) mo_stuck
theorem mo_eLst {ms : List (Bool × M Opd)} (h : MoS J B ms) : Mo J B (eLst ms) := mo_bnd (mo_evS h) fun os => mo_bnd (mo_takes os) fun ds => mo_if (mo_ret _) mo_stuck
theorem mo_truth (o : Opd) : Mo J B (truth o) := by
  intro δ δ2 h
  unfold truth
  cases e : o.data δ with
  | none => simp only [Option.bind_none]; trivial
  | some d =>
    rw [opd_le h o d e]
    simp only [Option.bind_some]
    cases truthy d with
    | none => trivial
    | some b => exact ⟨δ2, rfl, h⟩
theorem mo_tOf {m : M Opd} (h : Mo J B m) : Mo J B (tOf m) := mo_bnd h mo_truth
theorem mo_tAnd {a b : M Bool} (h : Mo J B a) (k : Mo J B b) : Mo J B (tAnd a b) := mo_bnd h fun c => mo_if k (mo_ret _)
theorem mo_tOr {a b : M Bool} (h : Mo J B a) (k : Mo J B b) : Mo J B (tOr a b) := mo_bnd h fun c => mo_if (mo_ret _) k
theorem mo_tNot {a : M Bool} (h : Mo J B a) : Mo J B (tNot a) := mo_bnd h fun c => mo_ret _
theorem mo_eAnd {a b : M Opd} (h : Mo J B a) (k : Mo J B b) : Mo J B (eAnd a b) := mo_bnd h fun o => mo_bnd (mo_truth o) fun c => mo_if k (mo_ret _)
theorem mo_eOr {a b : M Opd} (h : Mo J B a) (k : Mo J B b) : Mo J B (eOr a b) := mo_bnd h fun o => mo_bnd (mo_truth o) fun c => mo_if (mo_ret _) k
theorem mo_eNot {a : M Bool} (h : Mo J B a) : Mo J B (eNot a) := mo_bnd h fun c => mo_ret _
theorem mo_mIf {α : Type} {c : M Bool} {a b : M α} (h : Mo J B c) (k : Mo J B a) (l : Mo J B b) : Mo J B (mIf c a b) := mo_bnd h fun c => mo_if k l
theorem mo_eChain {o1 o2 : CmpOp} {a b c : M Opd} (ha : Mo J B a) (hb : Mo J B b) (hc : Mo J B c) : Mo J B (eChain o1 o2 a b c) := mo_bnd ha fun x => mo_bnd hb fun y => mo_bnd (mo_opN _ _) fun z => mo_bnd (mo_truth z) fun k => mo_if (mo_bnd hc fun w => mo_opN _ _) (mo_ret _)
theorem mo_intO {m : M Opd} (h : Mo J B m) : Mo J B (intO m) := mo_bnd h fun o => by
  intro δ δ2 l
  cases e : o.data δ with
  | none => simp only [e]; trivial
  | some d =>
    simp only [e, opd_le l o d e]
    cases d <;> first | exact ⟨δ2, rfl, l⟩ | trivial
theorem mo_partN : Mo J B (partM none) := mo_ret _
theorem mo_partS {m : M Opd} (h : Mo J B m) : Mo J B (partM (some m)) := mo_bnd (mo_intO h) fun i => mo_ret _
theorem mo_eCut {a : M Opd} {lo hi : Option (M Opd)} (h : Mo J B a) (hl : Mo J B (partM lo)) (hh : Mo J B (partM hi)) : Mo J B (eCut a lo hi) := mo_bnd h fun x => mo_bnd hl fun l => mo_bnd hh fun h => mo_opN _ _
theorem mo_sSeq {a b : M Flw} (h : Mo J B a) (k : Mo J B b) : Mo J B (sSeq a b) := mo_bnd h fun f => by cases f <;> first | exact k | exact mo_ret _
theorem mo_sDo {m : M Opd} (h : Mo J B m) : Mo J B (sDo m) := mo_bnd h fun _ => mo_ret _
def MoT (J : List Nat) (B : Nat → Option SV) (g : TgD) : Prop := ∀ s δ δ2, Le J B δ δ2 → ∀ δ', g s δ = some δ' → ∃ δ2', g s δ2 = some δ2' ∧ Le J B δ' δ2'
theorem mo_gName {i : Nat} (hi : i ∉ J) : MoT J B (gName i) := by
  intro s δ δ2 h δ' e
  unfold gName at e ⊢
  rw [h.len]
  by_cases l : i < δ.length
  · rw [if_pos l] at e ⊢; cases e; exact ⟨_, rfl, h.set1 hi _⟩
  · rw [if_neg l] at e; cases e
inductive MoTs (J : List Nat) (B : Nat → Option SV) : List TgD → Prop where
  | nil : MoTs J B []
  | cons {g : TgD} {gs : List TgD} : MoT J B g → MoTs J B gs → MoTs J B (g :: gs)
theorem mo_gTupL {gs : List TgD} (hg : MoTs J B gs) : ∀ (ds : List PyData) {δ δ2 δ' : DS}, Le J B δ δ2 → gTupL gs ds δ = some δ' → ∃ δ2', gTupL gs ds δ2 = some δ2' ∧ Le J B δ' δ2' := by
  induction hg with
  | nil => intro ds δ δ2 δ' h e; cases ds with
    | nil => cases e; exact ⟨_, rfl, h⟩
    | cons d ds => cases e
  | cons a _ ih => intro ds δ δ2 δ' h e; cases ds with
    | nil => cases e
    | cons d ds =>
      obtain ⟨δ1, e1, e2⟩ := Option.bind_eq_some_iff.mp e
      obtain ⟨δ3, f1, l⟩ := a _ _ _ h _ e1
      obtain ⟨δ4, f2, l2⟩ := ih ds l e2
      exact ⟨δ4, by unfold gTupL; rw [f1]; exact f2, l2⟩
theorem mo_gTup {gs : List TgD} (hg : MoTs J B gs) : MoT J B (gTup gs) := by
  intro s δ δ2 h δ' e
  obtain ⟨ds, e1, e2⟩ := Option.bind_eq_some_iff.mp e
  obtain ⟨δ4, f2, l2⟩ := mo_gTupL hg ds h e2
  exact ⟨δ4, by unfold gTup; rw [e1]; exact f2, l2⟩
theorem mo_asg {g : TgD} (hg : MoT J B g) (s : SV) : Mo J B (asg g s) := by
  intro δ δ2 h
  unfold asg
  cases e : g s δ with
  | none => trivial
  | some δ' => obtain ⟨δ2', e2, l⟩ := hg s δ δ2 h δ' e; rw [e2]; exact ⟨_, rfl, l⟩
theorem mo_sSet {g : TgD} {m : M Opd} (hg : MoT J B g) (h : Mo J B m) : Mo J B (sSet g m) := mo_bnd h fun o => mo_bnd (mo_take o) fun s => mo_bnd (mo_asg hg s) fun _ => mo_ret _
theorem mo_leave (np : Nat) (o : Opd) : Mo J B (leave np o) := by
  cases o with
  | val s => exact mo_ret s
  | slot i =>
    unfold leave
    refine mo_if (mo_take _) fun δ δ2 h => ?_
    cases e : at? δ i with
    | none => simp only [e]; trivial
    | some s => simp only [e, h.le i s e]; exact ⟨_, rfl, h.set1 (h.free e) none⟩
theorem mo_sRet {np : Nat} {m : M Opd} (h : Mo J B m) : Mo J B (sRet np m) := mo_bnd h fun o => mo_bnd (mo_leave np o) fun s => mo_ret _
theorem mo_forM {g : TgD} {b : M Flw} (hg : MoT J B g) (h : Mo J B b) : ∀ ds : List PyData, Mo J B (forM g b ds)
  | [] => mo_ret _
  | d :: ds => mo_bnd (mo_asg hg _) fun _ => mo_bnd h fun f => by cases f <;> first | exact mo_forM hg h ds | exact mo_ret _
theorem mo_itE {m : M Opd} (h : Mo J B m) : Mo J B (itE m) := mo_bnd h fun o => mo_bnd (mo_takeD o) fun d => by cases itemsOf d with
  | none => exact mo_stuck
  | some ds => exact mo_ret ds
theorem mo_sFor {g : TgD} {it : M (List PyData)} {b : M Flw} (hg : MoT J B g) (h : Mo J B it) (k : Mo J B b) : Mo J B (sFor it g b) := mo_bnd h fun ds => mo_forM hg k ds
theorem le_wipe {vs : List Nat} (hv : ∀ v ∈ vs, v ∉ J) {δ δ2 : DS} (h : Le J B δ δ2) : Le J B (wipeD vs δ) (wipeD vs δ2) := by
  induction vs with
  | nil => exact h
  | cons v vs ih => exact (ih fun w q => hv w (List.mem_cons_of_mem _ q)).set1 (hv v (by simp)) none
theorem mo_compM {g : TgD} {t : M Bool} {e : M Opd} {vs : List Nat} (hg : MoT J B g) (hv : ∀ v ∈ vs, v ∉ J) (ht : Mo J B t) (he : Mo J B e) : ∀ (ds acc : List PyData), Mo J B (compM g t e vs ds acc)
  | [], acc => mo_ret _
  | d :: ds, acc => mo_bnd (fun δ δ2 h => ⟨_, rfl, le_wipe hv h⟩) fun _ => mo_bnd (mo_asg hg _) fun _ => mo_bnd ht fun c => mo_if (mo_bnd he fun o => mo_bnd (mo_takeD o) fun y => mo_if (mo_compM hg hv ht he ds _) mo_stuck) (mo_compM hg hv ht he ds _)
theorem le_back {vs : List Nat} (hv : ∀ v ∈ vs, v ∉ J) {a a2 δ δ2 : DS} (k : Le J B a a2) (h : Le J B δ δ2) : Le J B (backD vs a δ) (backD vs a2 δ2) := by
  induction vs with
  | nil => exact h
  | cons v vs ih => exact (ih fun w q => hv w (List.mem_cons_of_mem _ q)).set (hv v (by simp)) fun s e => k.le v s e
theorem mo_eComp {g : TgD} {it : M (List PyData)} {t : M Bool} {e : M Opd} {vs : List Nat} (hg : MoT J B g) (hv : ∀ v ∈ vs, v ∉ J) (hi : Mo J B it) (ht : Mo J B t) (he : Mo J B e) : Mo J B (eComp it g t e vs) := mo_bnd hi fun ds => by
  intro δ δ2 h
  have := mo_compM hg hv ht he ds [] δ δ2 h
  cases e1 : compM g t e vs ds [] δ with
  | bad => simp only [e1]; trivial
  | exn x δ' => simp only [e1]; trivial
  | ok acc δ' =>
    rw [e1] at this
    obtain ⟨δ2', e2, l⟩ := this
    simp only [e1, e2]
    exact ⟨_, rfl, le_back hv h l⟩
theorem mo_lend (o : Opd) : Mo J B (lend o) := by
  cases o with
  | val s => exact mo_ret s
  | slot i =>
    intro δ δ2 h
    show MoR J B (match at? δ i with
      | some s => R.ok s (δ.set i none)
      | none => .bad) (match at? δ2 i with
      | some s => R.ok s (δ2.set i none)
      | none => .bad)
    cases e : at? δ i with
    | none => trivial
    | some s => rw [h.le i s e]; exact ⟨_, rfl, h.set1 (h.free e) none⟩
theorem mo_lends : ∀ os : List Opd, Mo J B (lends os)
  | [] => mo_ret _
  | o :: os => mo_bnd (mo_lend o) fun s => mo_bnd (mo_lends os) fun ss => mo_ret _
theorem lends_free : ∀ (os : List Opd) {δ δ2 δ' : DS} {ss : List SV}, Le J B δ δ2 → lends os δ = .ok ss δ' → ∀ i ∈ slotsO os, i ∉ J
  | [], _, _, _, _, _, _, i, hi => by simp [slotsO] at hi
  | .val s :: os, δ, δ2, δ', ss, h, e, i, hi => by
    unfold lends at e
    rw [bnd_ok (show lend (.val s) δ = .ok s δ from rfl)] at e
    unfold bnd at e
    cases e1 : lends os δ with
    | bad => rw [e1] at e; cases e
    | exn x δ1 => rw [e1] at e; cases e
    | ok ss1 δ1 => exact lends_free os h e1 i hi
  | .slot j :: os, δ, δ2, δ', ss, h, e, i, hi => by
    unfold lends at e
    cases e0 : at? δ j with
    | none =>
      have : lend (.slot j) δ = .bad := by simp only [lend, e0]
      unfold bnd at e; rw [this] at e; cases e
    | some s =>
      have : lend (.slot j) δ = .ok s (δ.set j none) := by simp only [lend, e0]
      rw [bnd_ok this] at e
      rcases List.mem_cons.mp (show i ∈ j :: slotsO os from hi) with rfl | hi
      · exact h.free e0
      · unfold bnd at e
        cases e1 : lends os (δ.set j none) with
        | bad => rw [e1] at e; cases e
        | exn x δ1 => rw [e1] at e; cases e
        | ok ss1 δ1 => exact lends_free os (h.set1 (h.free e0) none) e1 i hi
theorem le_give : ∀ (os : List Opd) (ss : List SV) {δ δ2 : DS}, (∀ i ∈ slotsO os, i ∉ J) → Le J B δ δ2 → Le J B (give os ss δ) (give os ss δ2)
  | [], [], _, _, _, h => h
  | [], _ :: _, _, _, _, h => h
  | .val _ :: os, [], _, _, _, h => h
  | .slot _ :: os, [], _, _, _, h => h
  | .val _ :: os, s :: ss, _, _, q, h => le_give os ss q h
  | .slot i :: os, s :: ss, _, _, q, h => le_give os ss (fun j hj => q j (List.mem_cons_of_mem _ hj)) (h.set1 (q i (by simp [slotsO])) _)
theorem mo_mCall (F : FN) (os : List Opd) : Mo J B (mCall F os) := by
  intro δ δ2 h
  have hm := mo_lends os δ δ2 h
  unfold mCall bnd
  cases e : lends os δ with
  | bad => trivial
  | exn x δ' => rw [e] at hm; obtain ⟨δ2', e2, l⟩ := hm; rw [e2]; exact ⟨δ2', rfl, l⟩
  | ok ss δ' =>
    rw [e] at hm
    obtain ⟨δ2', e2, l⟩ := hm
    rw [e2]
    simp only
    have q := lends_free os h e
    cases F ss with
    | ret r fin => exact ⟨_, rfl, le_give os fin q l⟩
    | exn x fin => exact ⟨_, rfl, le_give os fin q l⟩
    | bad => trivial
theorem mo_eCall {F : FN} {m : M (List Opd)} (h : Mo J B m) : Mo J B (eCall F m) := mo_bnd h fun os => mo_mCall F os
theorem mo_eMt {T : String} {f : List PyData → Option SV} {mo : M Opd} {ms : M (List Opd)} (h : Mo J B mo) (k : Mo J B ms) : Mo J B (eMt T f mo ms) := mo_bnd h fun o => by
  intro δ δ2 l
  cases e : o.data δ with
  | none => simp only [e]; trivial
  | some d =>
    simp only [e, opd_le l o d e]
    by_cases q : tyN d = T
    · simp only [if_pos q]; exact mo_bnd k (fun os => mo_opN f (o :: os)) δ δ2 l
    · simp only [if_neg q]; trivial
theorem mo_takeV : ∀ os : List Opd, Mo J B (takeV os)
  | [] => mo_ret _
  | o :: os => mo_bnd (mo_take o) fun s => mo_bnd (mo_takeV os) fun ss => mo_ret _
theorem le_sets : ∀ (is : List Nat) (ss : List SV) {δ δ2 : DS}, (∀ i ∈ is, i ∉ J) → Le J B δ δ2 → Le J B (setsN is ss δ) (setsN is ss δ2)
  | [], [], _, _, _, h => h
  | [], _ :: _, _, _, _, h => h
  | _ :: _, [], _, _, _, h => h
  | i :: is, s :: ss, _, _, q, h => le_sets is ss (fun j hj => q j (List.mem_cons_of_mem _ hj)) (h.set1 (q i (by simp)) _)
theorem mo_sPar {is : List Nat} {ms : List (M Opd)} (hi : ∀ i ∈ is, i ∉ J) (h : MoA J B ms) : Mo J B (sPar is ms) := mo_bnd (mo_evs h) fun os => mo_bnd (mo_takeV os) fun ss => by
  intro δ δ2 l
  simp only [l.len]
  split
  · exact ⟨_, rfl, le_sets is ss hi l⟩
  · trivial
theorem mo_itZip {ms : List (M Opd)} (h : MoA J B ms) : Mo J B (itZip ms) := mo_bnd (mo_evs h) fun os => mo_bnd (mo_takes os) fun ds => by
  split
  · split
    · exact mo_ret _
    · exact mo_stuck
  · exact mo_stuck
end
end Ev

/-! D30: the sorted list once more, by putting each text in its place: this one the kernel can run. -/
namespace Ev
open PySem L2
def insT (x : Str) : List Str → List Str
  | [] => [x]
  | y :: ys => if leS x y = true then x :: y :: ys else y :: insT x ys
def sortI : List Str → List Str
  | [] => []
  | x :: xs => insT x (sortI xs)
theorem insT_perm (x : Str) : ∀ l : List Str, (insT x l).Perm (x :: l)
  | [] => .refl _
  | y :: ys => by
    unfold insT
    split
    · exact .refl _
    · exact ((insT_perm x ys).cons y).trans (.swap x y ys)
theorem sortI_perm : ∀ l : List Str, (sortI l).Perm l
  | [] => .refl _
  | x :: xs => (insT_perm x (sortI xs)).trans ((sortI_perm xs).cons x)
theorem insT_pw (x : Str) : ∀ l : List Str, l.Pairwise (fun a b => leS a b = true) → (insT x l).Pairwise (fun a b => leS a b = true)
  | [], _ => List.pairwise_singleton _ _
  | y :: ys, h => by
    obtain ⟨h1, h2⟩ := List.pairwise_cons.mp h
    unfold insT
    split
    · rename_i c
      refine List.pairwise_cons.mpr ⟨fun z hz => ?_, h⟩
      rcases List.mem_cons.mp hz with rfl | hz
      · exact c
      · exact leS_trans c (h1 z hz)
    · rename_i c
      refine List.pairwise_cons.mpr ⟨fun z hz => ?_, insT_pw x ys h2⟩
      rcases List.mem_cons.mp ((insT_perm x ys).mem_iff.mp hz) with rfl | hz
      · have := leS_total z y
        simp only [Bool.or_eq_true] at this
        rcases this with q | q
        · exact absurd q c
        · exact q
      · exact h1 z hz
theorem sortI_pw : ∀ l : List Str, (sortI l).Pairwise (fun a b => leS a b = true)
  | [] => .nil
  | x :: xs => insT_pw x _ (sortI_pw xs)
theorem sortI_eq (ks : List Str) : sortT ks = sortI ks := (perm_pw_eq ((sortI_perm ks).trans (List.mergeSort_perm ks leS).symm) (sortI_pw ks) (List.pairwise_mergeSort (le := leS) (fun a b c => leS_trans) leS_total ks)).symm
def gSortedI : PyData → Option SV
  | .list ds => match txts ds with
    | some ks => if ks.length < 64 then some (.lst ((sortI ks).map .str)) else none
    | none => none
  | .dict kvs => match txts (kvs.map (·.1)) with
    | some ks => if ks.length < 64 then some (.lst ((sortI ks).map .str)) else none
    | none => none
  | _ => none
theorem gSorted_eq : gSorted = gSortedI := by
  funext d
  unfold gSorted gSortedI
  simp only [sortI_eq]
  all_goals (cases d <;> rfl)
end Ev

/-! D31: functions made on the way: a lambda of data, made, handed to a def, called there. -/
namespace Ev
open PySem PySem.Spec L2
open PyProof.Rows hiding St
open NdefX LamX

/-- what a made function makes of data -/
abbrev GN := List PyData → Option PyData
/-- the words of F, for the context that HandS gives to nested defs -/
abbrev CF.nf (F : CF) : NF := ⟨F.name, F.qual, F.params, [], F.scope, F.cl, F.c⟩
theorem cf_at {P : Program} {w : World} {H : Hp} {h : Heap} {f : Addr} {F : CF} (hok : HOk P w H h) (e : H f = some (CfO f F)) : ∃ (od : Option Addr) (sl : Array (Option Value)) (doc pm ctv : Value), h.get? f = some (⟨.type "function", od, .func (F.fd doc pm ctv), sl⟩ : Obj) := (hok f _ e).1
variable [Tb]
/-- what the function F at f promises: of what it captured, of what it is handed -/
structure CfOk (P : Program) (w : World) (K : PySem.W.Frag) (mg : Str → Option Value) (base : Heap) (k : Nat) (f : Addr) (F : CF) (np : Nat) (fr : List Str) (G : List PyData → GN) : Prop where
  go : ∀ (A : Around) (outer : List Env) (s : Shared) (H H0 : Hp) (O0 : List Addr) (us : List Value) (vs ws : List V) (cs ds : List PyData) (d : PyData) (T : List (V × SV)) (Q : VK) (E : XK), A.guards = some [] → Room k A → Env0 P w K mg base A outer s H →
    H f = some (CfO f F) → H F.c = some (CodeO F.c F.qual) → CellsAt F.cl fr (ws.map some) s.heap H → IsAll K H ws cs → Vals vs us → Rel K H0 O0 H (vs.zip (ds.map SV.dat) ++ T) → vs.length = np → ds.length = np → G cs ds = some d →
    (∀ v H', Rel K H0 O0 H' ((v, .dat d) :: T) → Q v H') → codeAny (model P w) A (.call (.ref f) ⟨us, []⟩) (CR (L2.CX P w) outer P w H s Q E) s
/-- a lambda's worth: m over its parameters, what it captured, its own names -/
def gLam (np nc nl : Nat) (m : M Opd) : List PyData → GN := fun cs ds =>
  if ds.length = np ∧ cs.length = nc then match bnd m takeD ((ds.map fun d => some (SV.dat d)) ++ ((cs.map fun d => some (SV.dat d)) ++ List.replicate nl none)) with
    | .ok d _ => some d
    | _ => none
  else none
/-- its body's context -/
abbrev Lx (P : Program) (w : World) (K : PySem.W.Frag) (mg : Str → Option Value) (base : Heap) (N : List Str) (F : CF) (f : Addr) (A : Around) (outer : List Env) (s : Shared) (H : Hp) (E : XK) : Cx := ncx (L2.CX P w) P w K mg base N F.nf f A outer s H E
theorem sl_dats : ∀ {vs : List V} {ds : List PyData}, vs.length = ds.length → ∀ {σ : St} {δ : DS} {L : List (V × SV)}, Sl σ δ L → Sl (vs.map some ++ σ) ((ds.map fun d => some (SV.dat d)) ++ δ) (vs.zip (ds.map SV.dat) ++ L)
  | [], [], _, σ, δ, L, z => z
  | v :: vs, d :: ds, h, σ, δ, L, z => .full (sl_dats (by simpa using h) z)
  | [], _ :: _, h, _, _, _, _ => by simp at h
  | _ :: _, [], h, _, _, _, _ => by simp at h
theorem sl_none : ∀ n : Nat, Sl (List.replicate n none) (List.replicate n none) []
  | 0 => .nil
  | n + 1 => .hole (sl_none n)
section
variable {K : PySem.W.Frag} {H0 H : Hp} {O0 : List Addr}
theorem Rel.dats : ∀ {ws : List V} {cs : List PyData}, IsAll K H ws cs → ∀ {L : List (V × SV)}, Rel K H0 O0 H L → Rel K H0 O0 H (ws.zip (cs.map SV.dat) ++ L)
  | _, _, .nil, L, R => R
  | _, _, .cons a b, L, R => (Rel.dats b R).push (fun O => Kp.refl O _) a
end
section
variable {P : Program} {w : World} {K : PySem.W.Frag} {mg : Str → Option Value} {base : Heap}
theorem cf_lam {k np nl : Nat} {f : Addr} {F : CF} {N ps fr : List Str} {body : Expr} {m : M Opd} (S : NScope N ps fr F.scope) (hnp : ps.length = np) (hN : N.length = np + (fr.length + nl)) (hb : F.body = .expr body)
    (hbind : ∀ (doc pm ctv : Value) (us : List Value), us.length = ps.length → bindArgs (F.fd doc pm ctv) ⟨us, []⟩ = pure (ps.zip us))
    (hm : ∀ (A : Around) (outer : List Env) (s : Shared) (H : Hp) (E : XK), A.guards = some [] → Room k (A.deeper (envF F.nf f s.heap.objs.size)) → ∃ W : WX, SE (Lx P w K mg base N F f A outer s H E) W body m) :
    CfOk P w K mg base (k + 1) f F np fr (gLam np fr.length nl m) := by
  refine ⟨fun A outer s H H0 O0 us vs ws cs ds d T Q E hG hr e0 hf hc C ia r R l1 l2 g q => ?_⟩
  have lim : s.heap.NoLimit := e0.mod.nolimit.keeps fun b o e => (e0.bs b o e).1
  obtain ⟨od, sl, doc, pm, ctv, ho⟩ := cf_at e0.hok hf
  have hcd : s.heap.CodeRec (.ref F.c) F.qual := codeO_at e0.hok hc
  have hl : vs.length = ps.length := l1.trans hnp.symm
  refine PySem.W.kla_callFunE hr.depth ho rfl S.co S.gen hb hcd ?_
  rw [hbind doc pm ctv us (by rw [← r.length]; exact hl)]
  refine wpAny_pure (wpAny_newFunctionEnv S.nocell (fun ⟨n, _⟩ hy => S.par n (List.of_mem_zip hy).1) (fun h1 hns hsb => ⟨lim.fresh _ hsb, ?_⟩) S.kind)
  show codeAny _ _ (.expr body (envF F.nf f s.heap.objs.size)) _ _
  have kp : ∀ b o, s.heap.get? b = some o → h1.get? b = some o := fun b o e => hsb.extBut b o (Nat.ne_of_lt (Heap.lt_size e)) (Heap.get?_push_of_some _ e)
  have I : Inv (Lx P w K mg base N F f A outer s H E) [] (startF N vs (ws.map some)) H { s with heap := h1, toks := s.toks + (ps.zip us).length } := inv_startN S hr.hd e0 hl r C hns kp
  obtain ⟨W, hse⟩ := hm A outer s H E hG (hr.deeper _)
  have lc : ws.length = fr.length := by have := C.len; rwa [List.length_map] at this
  have lcs : cs.length = fr.length := ia.length.symm.trans lc
  unfold gLam at g
  rw [if_pos ⟨l2, lcs⟩] at g
  have z0 : Sl (startF N vs (ws.map some)) ((ds.map fun d => some (SV.dat d)) ++ ((cs.map fun d => some (SV.dat d)) ++ List.replicate nl none)) (vs.zip (ds.map SV.dat) ++ (ws.zip (cs.map SV.dat) ++ [])) := by
    have en : N.length - vs.length - (ws.map some).length = nl := by rw [List.length_map, hN, l1, lc]; omega
    unfold startF
    rw [en]
    exact sl_dats (l1.trans l2.symm) (sl_dats ia.length (sl_none nl))
  have R1 : Rel K H0 O0 H ((vs.zip (ds.map SV.dat) ++ (ws.zip (cs.map SV.dat) ++ [])) ++ T) := by
    refine (Rel.dats ia R).perm ?_
    rw [List.append_nil, ← List.append_assoc]
    exact List.perm_append_comm.append_right T
  refine PySem.W.kla_codeExpr (wpAny_mono (hse.gh.run [] _ _ H (fun v H' => Q v H') I ⟨H0, O0, T, _, ⟨_, z0, R1⟩, ?_⟩) (fun v s' hq => ?_) fun _ _ hq => hq)
  · unfold bnd at g
    cases e1 : m ((ds.map fun d => some (SV.dat d)) ++ ((cs.map fun d => some (SV.dat d)) ++ List.replicate nl none)) with
    | bad => simp only [e1] at g; cases g
    | exn x δ1 => simp only [e1] at g; cases g
    | ok o δ1 =>
      simp only [e1] at g
      intro v H1 ov st
      cases e2 : takeD o δ1 with
      | bad => simp only [e2] at g; cases g
      | exn x δ2 => simp only [e2] at g; cases g
      | ok d' δ2 =>
        simp only [e2] at g
        cases g
        refine takeD_gh ov st e2 fun H2 _ st2 i2 => ?_
        obtain ⟨L, _, R2⟩ := st2
        exact q v H2 (R2.drop.push (fun O => Kp.refl O _) i2)
  · obtain ⟨x, H', J, rv, q'⟩ := hq
    exact ⟨x, H', J.os, J.bare, J.base, J.hok, rv, q'⟩
end
end Ev

/-! D32: a function that was handed to a def is called there; a lambda is made and handed on. -/
namespace Ev
open PySem PySem.Spec L2
open PyProof.Rows hiding St
open NdefX LamX
variable [Tb]

/-! ### the call of a function that a slot holds -/
/-- a function that was handed over: its place, its words, what its cells hold, as data, what it makes of data -/
structure HF where
  f : Addr
  F : CF
  ws : List V
  cs : List PyData
  g : GN
abbrev HF.sv (a : HF) : SV := .fn a.f a.F a.ws a.cs
/-- in the context X the function a makes a.g of data -/
def FnV (X : Cx) (a : HF) : Prop :=
  ∀ (pins : List (Addr × Obj)) (σ : St) (H : Hp) (s : Shared) (us : List Value) (vs : List V) (ds : List PyData) (d : PyData) (H0 : Hp) (O0 : List Addr) (T : List (V × SV)) (Q : VK), Inv X pins σ H s → H a.f = some (CfO a.f a.F) → H a.F.c = some (CodeO a.F.c a.F.qual) → IsAll X.K H a.ws a.cs →
    Vals vs us → Rel X.K H0 O0 H (vs.zip (ds.map SV.dat) ++ T) → vs.length = ds.length → a.g ds = some d → (∀ v H', Rel X.K H0 O0 H' ((v, .dat d) :: T) → Q v H') → wpAny (model X.prog X.w) X.A (call (.ref a.f) us) (EP X pins σ Q) X.xe s
/-- what must be known of a function when it is handed to a def -/
structure CloAt (P : Program) (w : World) (K : PySem.W.Frag) (mg : Str → Option Value) (base : Heap) (kc : Nat) (outer : List Env) (s : Shared) (H : Hp) (a : HF) : Prop where
  ex : ∃ (np : Nat) (fr : List Str) (g : List PyData → GN), CfOk P w K mg base kc a.f a.F np fr g ∧ CellsAt a.F.cl fr (a.ws.map some) s.heap H ∧ a.g = g a.cs ∧ ∀ ds d, g a.cs ds = some d → ds.length = np
  nf : ∀ y c, a.F.cl.lookup y = some c → c ∉ frs outer
/-- wherever the base stands, its cells stand -/
def CellsB (base : Heap) (cl : List (Str × Addr)) (fr : List Str) (ws : List V) : Prop := ∀ (h : Heap) (H : Hp), (∀ b o, base.get? b = some o → h.get? b = some o ∧ H b = none) → CellsAt cl fr (ws.map some) h H
theorem funs_less {h b1 b2 : Heap} : ∀ {l : List Env}, h.FunFrames b1 l → (∀ L ∈ frs l, b2.get? L = none) → h.FunFrames b2 l
  | [], _, _ => trivial
  | env :: r, ⟨hk, ⟨L, o, hf, _, ho, hd⟩, hr⟩, n => by
    have e : frs (env :: r) = L :: frs r := by unfold frs; rw [List.filterMap_cons, hf]
    exact ⟨hk, ⟨L, o, hf, n L (by rw [e]; exact List.mem_cons_self), ho, hd⟩, funs_less hr fun b hb => n b (by rw [e]; exact List.mem_cons_of_mem _ hb)⟩
section
variable {P : Program} {w : World} {K : PySem.W.Frag} {mg : Str → Option Value} {base base' : Heap} {A : Around} {outer : List Env} {s : Shared} {H : Hp}
theorem env_less (e : Env0 P w K mg base' A outer s H) (m : Mod K mg base) (k : ∀ b o, base.get? b = some o → base'.get? b = some o) (z : base.objs.size ≤ base'.objs.size) : Env0 P w K mg base A outer s H :=
  { frames := e.frames, mod := m, bs := fun b o q => e.bs b o (k b o q), bsz := Nat.le_trans z e.bsz, frf := e.frf, hok := e.hok, bare := e.bare,
    funs := funs_less e.funs fun L hL => by
      cases q : base.get? L with
      | none => rfl
      | some o => have := (e.funs.mem hL).1; rw [k L o q] at this; cases this }
/-- the base with the cells of what is handed over -/
theorem base_more {kc : Nat} {fs : List HF} (e0 : Env0 P w K mg base A outer s H) (hc : ∀ a ∈ fs, CloAt P w K mg base kc outer s H a) :
    ∃ base' : Heap, Env0 P w K mg base' A outer s H ∧ (∀ b o, base.get? b = some o → base'.get? b = some o) ∧ base.objs.size ≤ base'.objs.size ∧ ∀ a ∈ fs, ∀ fr, CellsAt a.F.cl fr (a.ws.map some) s.heap H → CellsB base' a.F.cl fr a.ws := by
  classical
  let C : Addr → Prop := fun c => ∃ a ∈ fs, ∃ y, a.F.cl.lookup y = some c
  let out : List Addr := (List.range s.heap.objs.size).filter fun b => decide (base.get? b = none ∧ ¬ C b)
  have get : ∀ {b o}, s.heap.get? b = some o → (base.get? b ≠ none ∨ C b) → (PySem.W.hideAll s.heap out).get? b = some o := by
    intro b o e q
    refine PySem.W.hideAll_get _ e fun hm => ?_
    obtain ⟨n1, n2⟩ := of_decide_eq_true (List.mem_filter.mp hm).2
    rcases q with q | q
    · exact q n1
    · exact n2 q
  have of_ : ∀ {b o}, (PySem.W.hideAll s.heap out).get? b = some o → s.heap.get? b = some o ∧ (base.get? b ≠ none ∨ C b) := by
    intro b o e
    have e1 := PySem.W.of_hideAll out e
    refine ⟨e1, Classical.byContradiction fun q => ?_⟩
    have hm : b ∈ out := List.mem_filter.mpr ⟨List.mem_range.mpr (Heap.lt_size e1), decide_eq_true ⟨Classical.byContradiction fun z => q (.inl z), fun z => q (.inr z)⟩⟩
    rw [PySem.W.hideAll_none out hm] at e; cases e
  have sub : ∀ b o, base.get? b = some o → (PySem.W.hideAll s.heap out).get? b = some o := fun b o e => get (e0.bs b o e).1 (.inl (by rw [e]; exact fun z => by cases z))
  have cellN : ∀ {c}, C c → H c = none ∧ ∃ v, s.heap.IsCell c v := by
    rintro c ⟨a, ha, y, e⟩
    obtain ⟨np, fr, g, _, q, _⟩ := (hc a ha).ex
    exact q.all y c e
  refine ⟨PySem.W.hideAll s.heap out, ?_, sub, by rw [PySem.W.hideAll_size]; exact e0.bsz, fun a ha fr q h H1 st => ?_⟩
  · refine { frames := e0.frames, mod := ⟨e0.mod.kin.keeps sub, e0.mod.glob.keeps sub, ?_, e0.mod.nolimit.keeps sub⟩, bs := fun b o e => ?_, bsz := by rw [PySem.W.hideAll_size]; exact Nat.le_refl _, frf := e0.frf, hok := e0.hok, bare := e0.bare, funs := funs_less e0.funs fun L hL => ?_ }
    · obtain ⟨mb, b1, b2⟩ := e0.mod.blt
      exact ⟨mb, b1.keeps sub, b2⟩
    · obtain ⟨e1, q⟩ := of_ e
      refine ⟨e1, ?_⟩
      rcases q with q | q
      · cases e2 : base.get? b with
        | none => exact absurd e2 q
        | some o' => exact (e0.bs b o' e2).2
      · exact (cellN q).1
    · cases e : (PySem.W.hideAll s.heap out).get? L with
      | none => rfl
      | some o =>
        rcases (of_ e).2 with q | ⟨a, ha, y, q⟩
        · exact absurd (e0.funs.mem hL).1 q
        · exact absurd hL ((hc a ha).nf y L q)
  · have key : ∀ {y c v}, a.F.cl.lookup y = some c → s.heap.IsCell c v → h.IsCell c v ∧ H1 c = none := by
      rintro y c v e ⟨o, ho, hd⟩
      obtain ⟨k1, k2⟩ := st c o (get ho (.inr ⟨a, ha, y, e⟩))
      exact ⟨⟨o, k1, hd⟩, k2⟩
    refine ⟨q.len, fun y c e => ?_, q.inj, fun i y e => ?_⟩
    · obtain ⟨_, v, z⟩ := q.all y c e
      exact ⟨(key e z).2, v, (key e z).1⟩
    · obtain ⟨c, e2, hv⟩ := q.has i y e
      refine ⟨c, e2, fun v ev => ?_⟩
      obtain ⟨u, r, z⟩ := hv v ev
      exact ⟨u, r, (key e2 z).1⟩
theorem fnV_of {kc np : Nat} {fr : List Str} {g : List PyData → GN} {a : HF} (m : Mod K mg base) (k : ∀ b o, base.get? b = some o → base'.get? b = some o) (z : base.objs.size ≤ base'.objs.size) (ok : CfOk P w K mg base kc a.f a.F np fr g) (cb : CellsB base' a.F.cl fr a.ws) (hg : a.g = g a.cs) (hl : ∀ ds d, g a.cs ds = some d → ds.length = np)
    (Y : Cx) (h1 : Y.prog = P) (h2 : Y.w = w) (h3 : Y.K = K) (h4 : Y.mg = mg) (h5 : Y.base = base') (hG : Y.A.guards = some []) (hr : Room kc Y.A) : FnV Y a := by
  intro pins σ H1 s1 us vs ds d H0 O0 T Q I hf hc ia r R hlen hgd q
  subst h1 h2 h3 h4 h5
  have C1 : CellsAt a.F.cl fr (a.ws.map some) s1.heap H1 := cb _ _ I.bs
  rw [hg] at hgd
  have l := hl ds d hgd
  refine wpAny_call (codeAny_mono (ok.go _ _ s1 H1 H0 O0 us vs a.ws a.cs ds d T Q (fun _ _ _ => False) hG hr (env_less I.env0 m k z) hf hc C1 ia r R (hlen.trans l) l hgd q) fun out s' hq => ?_)
  rcases out with x | fl
  · obtain ⟨_, _, _, _, _, _, _, _, _, _, _, _, h⟩ := hq
    exact h.elim
  · rcases fl with _ | _ | _ | u
    all_goals first | exact I.after hq | exact False.elim hq
end
open Classical in
/-- the slot i holds that function -/
noncomputable def chkF (a : HF) (i : Nat) : M Unit := fun δ => if at? δ i = some a.sv then .ok () δ else .bad
theorem chkF_ok {a : HF} {i : Nat} {δ : DS} (h : at? δ i = some a.sv) : chkF a i δ = .ok () δ := if_pos h
theorem chkF_at {a : HF} {i : Nat} {δ δ' : DS} {u : Unit} (h : chkF a i δ = .ok u δ') : at? δ i = some a.sv ∧ δ' = δ := by
  unfold chkF at h
  split at h
  · rename_i q; cases h; exact ⟨q, rfl⟩
  · cases h
/-- x(..), x the slot i -/
noncomputable def eCallV (a : HF) (i : Nat) (m : M (List Opd)) : M Opd := bnd (chkF a i) fun _ => bnd m fun os => bnd (takes os) fun ds => bnd (chkF a i) fun _ => match a.g ds with
  | some d => ret (.val (.dat d))
  | none => stuck
section
variable {K : PySem.W.Frag} {H0 H H' : Hp} {O0 : List Addr} {σ : St} {δ δ' : DS} {T T' : List (V × SV)} {v : V} {s : SV} {d : PyData}
theorem Ste.fnAt {a : HF} {i : Nat} (st : Ste K H0 O0 σ H δ T) (e : at? δ i = some a.sv) : σ[i]? = some (some (.ref a.f)) ∧ H a.f = some (CfO a.f a.F) ∧ H a.F.c = some (CodeO a.F.c a.F.qual) ∧ IsAll K H a.ws a.cs := by
  obtain ⟨v, ev, o, en⟩ := st.slot e
  cases en with
  | fn h1 h2 h3 => exact ⟨ev, h1, h2, h3⟩
/-- data, a thing in front of nothing -/
theorem Ste.datas {vs : List V} {ds : List PyData} (st : Ste K H0 O0 σ H δ T) (ia : IsAll K H vs ds) : Ste K H0 O0 σ H δ (vs.zip (ds.map SV.dat) ++ T) := by
  obtain ⟨L, z, R⟩ := st
  refine ⟨L, z, (Rel.dats ia R).perm ?_⟩
  rw [← List.append_assoc, ← List.append_assoc]
  exact List.perm_append_comm.append_right T
end
section
variable {X : Cx} {W : WX} {as : List Nat} {pos p : Pos}
theorem se_callV {a : HF} {i : Nat} {x : Str} {e : Expr} {es : List Expr} {m : M (List Opd)} (hV : FnV X a) (hN : X.N[i]? = some x) (hv : Vis X.env.scope x) (ha : SA X W (e :: es) m) (hp : plainE e = true)
    (hdb : (x == ("__debug__" : Str)) = false) (hcd : (x == ("__classdict__" : Str)) = false) (hpl : (backTo pos (starEach es X.env)).any (·.1) = false) : SE X W (.Call (.Name x p) (e :: es) [] pos) (eCallV a i m) := by
  refine ⟨fun pins s σ H Q I h => ?_⟩
  obtain ⟨H0, O0, T, δ, st, hm⟩ := h
  unfold eCallV bnd at hm
  cases e0 : chkF a i δ with
  | bad => simp only [e0] at hm
  | exn x δ1 => unfold chkF at e0; split at e0 <;> cases e0
  | ok u δ0 =>
    obtain ⟨ei, rfl⟩ := chkF_at e0
    simp only [e0] at hm
    obtain ⟨es0, ef0, ec0, _⟩ := st.fnAt ei
    refine wpAny_Call_Name_kw (thn ((pe_var (pos := p) hN hv hdb hcd).run pins s σ H (fun v H1 => v = .ref a.f ∧ H1 = H) I ⟨.ref a.f, es0, rfl, rfl⟩) fun u s1 ⟨v, H1, I1, r1, q1⟩ => ?_)
    obtain ⟨rfl, rfl⟩ := q1
    obtain rfl : u = Value.ref a.f := r1
    have fnT : ∀ {σ : St} {H : Hp} {s : Shared}, Inv X pins σ H s → H a.f = some (CfO a.f a.F) → PySem.W.FnAt a.f s.heap := fun J e => by
      obtain ⟨od, sl, doc, pm, ctv, ho⟩ := cf_at J.hok e
      exact ⟨_, od, _, sl, ho⟩
    have key : tA X.K W m σ H1 fun vs H2 => Gh (fun H3 => H3 a.f = some (CfO a.f a.F) ∧ H3 a.F.c = some (CodeO a.F.c a.F.qual) ∧ IsAll X.K H3 a.ws a.cs ∧ ∃ ds d T', Rel X.K H0 O0 H3 (vs.zip (ds.map SV.dat) ++ T') ∧ vs.length = ds.length ∧ a.g ds = some d ∧ ∀ v H', Rel X.K H0 O0 H' ((v, .dat d) :: T') → Q v H') H2 := by
      refine ⟨H0, O0, T, δ0, st, ?_⟩
      cases e1 : m δ0 with
      | bad => simp only [e1] at hm
      | exn y δ1 => simp only [e1] at hm; exact hm
      | ok os δ1 =>
        simp only [e1] at hm
        intro vs H2 ov st2
        cases e2 : takes os δ1 with
        | bad => simp only [e2] at hm
        | exn y δ2 => exact absurd e2 takes_noexn
        | ok ds δ2 =>
          simp only [e2] at hm
          refine takes_gh ov st2 e2 fun H3 _ st3 ia => ?_
          cases e3 : chkF a i δ2 with
          | bad => simp only [e3] at hm
          | exn x δ1 => unfold chkF at e3; split at e3 <;> cases e3
          | ok u δ3 =>
            obtain ⟨ei3, rfl⟩ := chkF_at e3
            simp only [e3] at hm
            cases e4 : a.g ds with
            | none => simp only [e4, stuck] at hm
            | some d =>
              simp only [e4, ret] at hm
              obtain ⟨_, a1, a2, a3⟩ := st3.fnAt ei3
              obtain ⟨L, z, R⟩ := st3
              refine ⟨a1, a2, a3, ds, d, L ++ T, Rel.dats ia R, ia.length, e4, fun v H' R' => hm v H' True.intro ⟨L, z, R'.perm ?_⟩⟩
              exact (List.perm_middle (a := (v, SV.dat d)) (l₁ := L) (l₂ := T)).symm
    refine PySem.W.callWith_F (first := []) (fnT I1 ef0) (thn (ha.gh.run pos pins s1 σ H1 _ I1 key) fun us s2 hq => ?_) (star_plain hp es X.env) hpl
    obtain ⟨vs, H2, I2, r, h1, h2, h3, ds, d, T', R, l, g, q⟩ := hq
    exact ⟨fnT I2 h1, hV pins σ H2 s2 us vs ds d H0 O0 T' Q I2 h1 h2 h3 r R l g q⟩
end

/-! ### a def that is handed functions -/
/-- fs: the functions, behind the other arguments -/
structure HnG (P : Program) (w : World) (K : PySem.W.Frag) (mg : Str → Option Value) (base : Heap) (kc k : Nat) (f : Addr) (fd : FuncData) (ps : List Str) (Fm : List HF → FN) : Prop where
  go : ∀ (fs : List HF) (A : Around) (outer : List Env) (s : Shared) (H : Hp) (args : Args) (us : List Value) (vs : List V) (Q : VK) (E : XK), A.guards = some [] → Room k A → Env0 P w K mg base A outer s H → BindsTo s fd args (ps.zip us) → Vals vs us →
    (∀ a ∈ fs, CloAt P w K mg base kc outer s H a) → spF K ps.length (Fm fs) vs H Q E → codeAny (model P w) A (.call (.ref f) args) (CR (L2.CX P w) outer P w H s Q E) s
structure HalF (P : Program) (w : World) (K : PySem.W.Frag) (mg : Str → Option Value) (base : Heap) (kc k : Nat) (x : Str) (np : Nat) (Fm : List HF → FN) : Prop where
  ex : ∃ (f : Addr) (fd : FuncData) (ps : List Str), HnG P w K mg base kc k f fd ps Fm ∧ mg x = some (.ref f) ∧ PySem.W.keepIn K (.ref f) = true ∧ Binds K fd ps [] ∧ ps.length = np
  ar : ∀ fs, Ar np (Fm fs)
/-- the body's worth for functions, two of them -/
noncomputable def hnOf2 (np nl : Nat) (as : List Nat) (m : HF → HF → M Flw) : List HF → FN
  | [a, b] => fnOf np nl as (m a b)
  | _ => fun _ => .bad
/-- over the base the function a may be called -/
def FnB (P : Program) (w : World) (K : PySem.W.Frag) (mg : Str → Option Value) (base : Heap) (kc : Nat) (a : HF) : Prop :=
  ∀ Y : Cx, Y.prog = P → Y.w = w → Y.K = K → Y.mg = mg → Y.base = base → Y.A.guards = some [] → Room kc Y.A → FnV Y a
section
variable {P : Program} {w : World} {K : PySem.W.Frag} {mg : Str → Option Value} {base : Heap}
theorem hal_fn2 {x qual : Str} {params : Arguments} {body : List Stmt} {scope : Scope} {f : Addr} {fd : FuncData} {N ps : List Str} {kc k np nl : Nat} {as : List Nat} {m : HF → HF → M Flw} (F : FunD K x qual params body scope [] [] f fd) (S : FnScope N ps scope) (hps : ps.length = np) (hN : N.length = np + nl)
    (hmg : mg x = some (.ref f)) (hb : Binds K fd ps []) (hk : kc ≤ k)
    (hbody : ∀ (base' : Heap) (a b : HF) (cdv : Value) (A : Around) (outer : List Env) (s : Shared) (H : Hp) (E : XK), FnB P w K mg base' kc a → FnB P w K mg base' kc b → A.guards = some [] → Room k (A.deeper (PyProof.Rows.envOfC qual scope s.heap.objs.size f cdv)) →
      ∀ W : WX, Takes (Bx P w K mg base' N qual scope f cdv A outer s H E) W → SSs (Bx P w K mg base' N qual scope f cdv A outer s H E) W as body (m a b)) : HalF P w K mg base kc (k + 1) x np (hnOf2 np nl as m) := by
  refine ⟨⟨f, fd, ps, ⟨fun fs A outer s H args us vs Q E hG hr e0 hbd r hc h => ?_⟩, hmg, F.kp, hb, hps⟩, fun fs => ?_⟩
  · match fs, hc, h with
    | [a, b], hc, h =>
      rw [hps] at h
      obtain ⟨base', e1, sub, sz, cb⟩ := base_more e0 hc
      have fb : ∀ a' ∈ [a, b], FnB P w K mg base' kc a' := by
        intro a' ha Y y1 y2 y3 y4 y5 yG yr
        obtain ⟨np, fr, g, ok, C, hg, hl⟩ := (hc a' ha).ex
        exact fnV_of e0.mod sub sz ok (cb a' ha fr C) hg hl Y y1 y2 y3 y4 y5 yG yr
      refine fn_run F S hr e1 hbd r (by rw [spF_len h, hps]) fun cdv _ hr' => fn_body hN ?_ h
      exact hbody base' a b cdv A outer s H E (fb a (by simp)) (fb b (by simp)) hG hr' _ (takes_of rfl rfl rfl rfl)
    | [], _, h => obtain ⟨_, _, _, _, _, _, _, h⟩ := h; exact h.elim
    | [_], _, h => obtain ⟨_, _, _, _, _, _, _, h⟩ := h; exact h.elim
    | _ :: _ :: _ :: _, _, h => obtain ⟨_, _, _, _, _, _, _, h⟩ := h; exact h.elim
  · match fs with
    | [a, b] => exact fnOf_ar np nl as (m a b)
    | [] => exact fun _ => trivial
    | [_] => exact fun _ => trivial
    | _ :: _ :: _ :: _ => exact fun _ => trivial
end

/-! ### a lambda is made -/
section
variable {X : Cx} {pins : List (Addr × Obj)} {σ : St} {H : Hp} {s : Shared}
theorem inv_cf {F : CF} {o : Obj} {t' : Nat} {doc pm ctv : Value} (I : Inv X pins σ H s) (ho : o = { cls := .type "function", data := .func (F.fd doc pm ctv) }) :
    Inv X pins σ (upd H s.heap.objs.size (CfO s.heap.objs.size F)) { s with heap := s.heap.push o, toks := t' } := by
  subst ho
  have e : (s.heap.push ({ cls := .type "function", data := .func (F.fd doc pm ctv) } : Obj)).get? s.heap.objs.size = some ({ cls := .type "function", data := .func (F.fd doc pm ctv) } : Obj) := Heap.get?_push_size _ rfl
  refine I.laid (a := s.heap.objs.size) (fun b u q => Heap.get?_push_of_some _ q) (Nat.le_refl _) ⟨⟨_, _, doc, pm, ctv, e⟩, ⟨_, e⟩, ?_⟩
  rintro h1 h2 ⟨od, sl, d, p, t, z⟩ st
  exact ⟨od, sl, d, p, t, st _ z⟩
/-- the words of a lambda made in the context X -/
abbrev lamF (X : Cx) (params : Arguments) (body : Expr) (scope : Scope) (c' : Addr) : CF := ⟨"<lambda>", X.env.qual ++ "<lambda>", params, .expr body, scope, cloFrom X.env.cells scope.names [], c'⟩
/-- where the running def's code object stands, and its table -/
structure TbX (X : Cx) (nm : Nat → Nat → Str) : Prop where
  ex : ∃ c P, X.env.code = .ref c ∧ TabB X.base X.mg c P ∧ (P, nm) ∈ Tb.tt ∧ ∀ p ∈ Tb.tt, p.1 = P → p.2 = nm
theorem mk_lamK {nm : Nat → Nat → Str} {params : Arguments} {body : Expr} {scope : Scope} {pos : Pos} {E : Value → Shared → Prop} {Q : Value → Shared → Prop} (I : Inv X pins σ H s) (tb : TbX X nm) (hn : nm pos.line pos.col = X.env.qual ++ "<lambda>") (hT : TabsN Tb.tt H)
    (hdef : defaultsOf params X.env = ([], [])) (hfree : ∀ y ∈ scope.names, y.2 = .free → ∃ c, X.env.cells.lookup y.1 = some c)
    (h : ∀ (f c' : Addr) (H1 : Hp) (s' : Shared), Inv X pins σ H1 s' → ExtN H H1 → TabsN Tb.tt H1 → H1 f = some (CfO f (lamF X params body scope c')) → H1 c' = some (CodeO c' (X.env.qual ++ "<lambda>")) → (∀ b o, H b = none → s.heap.get? b = some o → s'.heap.get? b = some o ∧ H1 b = none) → Q (.ref f) s') :
    wpAny (model X.prog X.w) X.A (eval (.Lambda params body scope pos) X.env) Q E s := by
  obtain ⟨c, P, hcode, TB, hm, hu⟩ := tb.ex
  obtain ⟨ps, hP, ht, ha⟩ := (show TabN H P nm from hT _ hm)
  refine PySem.W.kla_eval hdef ?_
  have bP : s.heap.BuiltinsAt X.mg P := TB.bm.keeps I.bk
  have hP' : s.heap.get? P = some { cls := .none, data := .fields ps } := I.hok P _ hP
  have ext1 : ∀ {G : Hp} {a : Addr} {o : HO}, G a = none → ∀ b u, G b = some u → upd G a o b = some u := fun n b u e => by rw [upd_ne (ne_of_none e n)]; exact e
  cases hc : codeAmong pos ps.toList with
  | some cv =>
    obtain ⟨c', rfl, hco⟩ := ha pos cv hc
    rw [hn] at hco
    refine PySem.W.kla_makeFunctionHit (mg := X.mg) (c := c) (P := P) (ps := ps) (closure_ok hfree) I.ok.glob (I.mod.glob.keeps I.bk) hcode (TB.code.keeps I.bk) hP' ht hc bP fun ctv h' tk hx hsz => ?_
    have I1 : Inv X pins σ H { s with heap := h', toks := tk } := I.kept hx
    have nF : H h'.objs.size = none := I1.hok.fresh (Nat.le_refl _)
    refine h h'.objs.size c' _ _ (inv_cf (F := lamF X params body scope c') (t' := tk) (doc := .none) (pm := (X.mg "__name__").getD .none) (ctv := ctv) I1 rfl) (ExtN.of (ext1 nF)) (hT.ext (ext1 nF)) upd_same ?_ fun b o n e => ⟨Heap.get?_push_of_some _ (hx b o e), ?_⟩
    · exact ext1 nF _ _ hco
    · rw [upd_ne (Nat.ne_of_lt (Nat.lt_of_lt_of_le (Heap.lt_size e) hsz))]; exact n
  | none =>
    refine PySem.W.kla_makeFunction (mg := X.mg) (c := c) (P := P) (ps := ps) (closure_ok hfree) I.ok.glob (I.mod.glob.keeps I.bk) hcode (TB.code.keeps I.bk) hP' ht hc TB.gP bP fun c' ctv h' tk hx hge hlt hrec htb => ?_
    obtain ⟨c2, oc, vs, t, e2, hoc, hd, hv⟩ := hrec
    cases e2
    have nC : H c' = none := I.hok.fresh hge
    have I1 := inv_table (t' := tk) (more := #[rawInt pos.line, rawInt pos.col, .ref c']) (h' := h') I hP (fun b o hb e => hx b o hb e) htb hge ⟨oc, vs, t, hoc, hd, hv⟩
    generalize hH1 : upd (upd H P (.tbl (ps ++ #[rawInt pos.line, rawInt pos.col, .ref c']))) c' (CodeO c' (X.env.qual ++ "<lambda>")) = H1 at I1
    have atC : H1 c' = some (CodeO c' (X.env.qual ++ "<lambda>")) := by rw [← hH1]; exact upd_same
    have atP : H1 P = some (.tbl (ps ++ #[rawInt pos.line, rawInt pos.col, .ref c'])) := by rw [← hH1, upd_ne (ne_of_none hP nC), upd_same]
    have els : ∀ b, b ≠ P → b ≠ c' → H1 b = H b := fun b n1 n2 => by rw [← hH1, upd_ne n2, upd_ne n1]
    have hE : ExtN H H1 := by
      intro b o e n
      rw [els b (fun z => by subst z; rw [hP] at e; cases e; exact n _ rfl) (ne_of_none e nC)]
      exact e
    have T1 : TabsN Tb.tt H1 := by
      intro p hp
      by_cases hb : p.1 = P
      · rw [hu p hp hb, hb]
        refine ⟨_, atP, ?_, fun p' cv hcv => ?_⟩
        · rw [Array.toList_append]
          exact PySem.TriplesOk_snoc _ _ _ _ ht
        · rw [Array.toList_append] at hcv
          rcases among_app2 _ ht hcv with z | ⟨z, z1, z2⟩
          · obtain ⟨c0, e1, e2⟩ := ha p' cv z
            exact ⟨c0, e1, hE _ _ e2 codeO_ne⟩
          · exact ⟨c', z, by rw [← z1, ← z2, hn]; exact atC⟩
      · obtain ⟨qs, a1, a2, a3⟩ := hT p hp
        refine ⟨qs, by rw [els _ hb (ne_of_none a1 nC)]; exact a1, a2, fun p' cv hcv => ?_⟩
        obtain ⟨c0, e1, e2⟩ := a3 p' cv hcv
        exact ⟨c0, e1, hE _ _ e2 codeO_ne⟩
    have nF : H1 h'.objs.size = none := I1.hok.fresh (Nat.le_refl _)
    refine h h'.objs.size c' _ _ (inv_cf (F := lamF X params body scope c') (t' := tk) (doc := .none) (pm := (X.mg "__name__").getD .none) (ctv := ctv) I1 rfl) (fun b o e n => ?_) (T1.ext (ext1 nF)) upd_same (ext1 nF _ _ atC) fun b o n e => ⟨Heap.get?_push_of_some _ (hx b o (fun z => by subst z; rw [n] at hP; cases hP) e), ?_⟩
    · exact ext1 nF _ _ (hE b o e n)
    · have lt : b < s.heap.objs.size := Heap.lt_size e
      rw [upd_ne (Nat.ne_of_lt (Nat.lt_trans (Nat.lt_of_lt_of_le lt hge) hlt)), els b (fun z => by subst z; rw [n] at hP; cases hP) (Nat.ne_of_lt (Nat.lt_of_lt_of_le lt hge))]
      exact n
theorem mk_lam {nm : Nat → Nat → Str} {params : Arguments} {body : Expr} {scope : Scope} {pos : Pos} {E : Value → Shared → Prop} {Q : Value → Shared → Prop} (I : Inv X pins σ H s) (tb : TbX X nm) (hn : nm pos.line pos.col = X.env.qual ++ "<lambda>") (hT : TabsN Tb.tt H)
    (hdef : defaultsOf params X.env = ([], [])) (hfree : ∀ y ∈ scope.names, y.2 = .free → ∃ c, X.env.cells.lookup y.1 = some c)
    (h : ∀ (f c' : Addr) (H1 : Hp) (s' : Shared), Inv X pins σ H1 s' → ExtN H H1 → TabsN Tb.tt H1 → H1 f = some (CfO f (lamF X params body scope c')) → H1 c' = some (CodeO c' (X.env.qual ++ "<lambda>")) → Q (.ref f) s') :
    wpAny (model X.prog X.w) X.A (eval (.Lambda params body scope pos) X.env) Q E s := mk_lamK I tb hn hT hdef hfree fun f c' H1 s' a b c d e _ => h f c' H1 s' a b c d e
end
end Ev

/-! D33: lambdas handed to a def. -/
namespace Ev
open PySem PySem.Spec L2
open PyProof.Rows hiding St
open NdefX LamX

/-- what the handed-on call makes: data, or an exception -/
inductive OutH where
  | v (d : PyData)
  | x (e : Exn)
def OutH.fr : OutH → List SV → FR
  | .v d, fin => .ret (.dat d) fin
  | .x e, fin => .exn e fin
def OutH.r : OutH → DS → R Opd
  | .v d, δ => .ok (.val (.dat d)) δ
  | .x e, δ => .exn e δ
def hands (a b : HF) (ds : List PyData) : List SV := ds.map SV.dat ++ [a.sv, b.sv]
/-- wherever the functions stand, the def makes this -/
def Hands2 (Fm : List HF → FN) (ds : List PyData) (G1 G2 : GN) (r : OutH) : Prop := ∀ a b : HF, a.g = G1 → b.g = G2 → Fm [a, b] (hands a b ds) = r.fr (hands a b ds)
open Classical in
noncomputable def mHand2 (Fm : List HF → FN) (ds : List PyData) (G1 G2 : GN) : M Opd := fun δ =>
  if h : ∃ r, Hands2 Fm ds G1 G2 r then (Classical.choose h).r δ else .bad
noncomputable def eCallH2 (Fm : List HF → FN) (m : M (List Opd)) (js1 js2 : List Nat) (g1 g2 : List PyData → GN) : M Opd :=
  bnd m fun os => bnd (takes os) fun ds => bnd (takes (js1.map Opd.slot)) fun cs1 => bnd (takes (js2.map Opd.slot)) fun cs2 => mHand2 Fm ds (g1 cs1) (g2 cs2)
theorem OutH.fr_inj {r r' : OutH} {fin : List SV} (h : r.fr fin = r'.fr fin) : r = r' := by
  cases r <;> cases r' <;> cases h <;> rfl
theorem mHand2_ok {Fm : List HF → FN} {ds : List PyData} {G1 G2 : GN} {r : OutH} (F : CF) (h : Hands2 Fm ds G1 G2 r) (δ : DS) : mHand2 Fm ds G1 G2 δ = r.r δ := by
  have ex : ∃ r, Hands2 Fm ds G1 G2 r := ⟨r, h⟩
  unfold mHand2
  rw [dif_pos ex]
  have e := (Classical.choose_spec ex ⟨0, F, [], [], G1⟩ ⟨0, F, [], [], G2⟩ rfl rfl).symm.trans (h ⟨0, F, [], [], G1⟩ ⟨0, F, [], [], G2⟩ rfl rfl)
  rw [OutH.fr_inj e]
theorem perm3 (A B C : List (V × SV)) : (A ++ (B ++ C)).Perm (B ++ (A ++ C)) := by
  rw [← List.append_assoc, ← List.append_assoc]
  exact List.perm_append_comm.append_right C
variable [Tb]
inductive Made : List (Addr → CF) → List (Addr × CF) → Prop
  | nil : Made [] []
  | cons {mk : Addr → CF} {mks : List (Addr → CF)} {f c' : Addr} {fs : List (Addr × CF)} : Made mks fs → Made (mk :: mks) ((f, mk c') :: fs)
def fnT (fs : List (Addr × CF)) : List (V × SV) := fs.map fun c => (V.ref c.1, SV.fn c.1 c.2 [] [])
/-- a lambda's reading -/
def tLamR (K : PySem.W.Frag) (mk : Addr → CF) : TE := fun σ H Q => ∃ H0 O0 T δ, Ste K H0 O0 σ H δ T ∧ ∀ f c' H', Ste K H0 O0 σ H' δ ((.ref f, .fn f (mk c') [] []) :: T) → Q (.ref f) H'
def tLs (K : PySem.W.Frag) (mks : List (Addr → CF)) : TA := fun σ H Q => ∃ H0 O0 T δ, Ste K H0 O0 σ H δ T ∧ ∀ fs H', Made mks fs → Ste K H0 O0 σ H' δ (fnT fs ++ T) → Q (fs.map fun c => V.ref c.1) H'
/-- operands, then lambdas -/
def tAH (K : PySem.W.Frag) (W : WX) (m : M (List Opd)) (mks : List (Addr → CF)) : TA := fun σ H Q => ∃ H0 O0 T δ, Ste K H0 O0 σ H δ T ∧ match m δ with
  | .ok os δ' => ∀ vs fs H', OpdVs σ vs os → Made mks fs → Ste K H0 O0 σ H' δ' (fnT fs ++ (tmps vs os ++ T)) → Q (vs ++ fs.map fun c => V.ref c.1) H'
  | .exn x δ' => ∀ cls d H', ExnOk K H' x cls d → Ste K H0 O0 σ H' δ' T → W cls d σ H'
  | .bad => False
section
variable {X : Cx} {W : WX} {pos : Pos}
theorem pe_lamR {nm : Nat → Nat → Str} {params : Arguments} {body : Expr} {scope : Scope} (tb : TbX X nm) (hn : nm pos.line pos.col = X.env.qual ++ "<lambda>") (hdef : defaultsOf params X.env = ([], []))
    (hfree : ∀ y ∈ scope.names, y.2 = .free → X.env.scope.names.lookup y.1 = some .cell ∨ X.env.scope.names.lookup y.1 = some .free) : PE X (.Lambda params body scope pos) (tLamR X.K (lamF X params body scope)) := by
  refine ⟨fun pins s σ H Q I h => ?_⟩
  obtain ⟨H0, O0, T, δ, st, hq⟩ := h
  have hT : TabsN Tb.tt H := by obtain ⟨L, _, R⟩ := st; exact R.tb
  refine mk_lam I tb hn hT hdef (fun y hy e => (hfree y hy e).elim (fun z => I.ok.has _ (.inl z)) fun z => I.ok.has _ (.inr z)) fun f c' H1 s' I1 eN T1 f1 c1 => ⟨.ref f, H1, I1, rfl, hq f c' H1 ?_⟩
  obtain ⟨L, z, R⟩ := st
  have st1 : Ste X.K H0 O0 σ H1 δ T := ⟨L, z, R.tstep eN T1⟩
  refine Ste.step (Tc := []) (Tn := [(.ref f, .fn f (lamF X params body scope c') [] [])]) st1 fun oc hc _ => ?_
  cases hc
  exact ⟨[] ++ [], .cons (.fn f1 c1 .nil) .nil, List.nodup_nil, fun a ha => (by cases ha), Kp.refl _ _⟩
theorem pa_lnil : PA X [] (tLs X.K []) := pa_nil.imp fun σ H Q h => by
  obtain ⟨H0, O0, T, δ, st, hq⟩ := h
  exact hq [] H .nil st
theorem pa_lcons {e : Expr} {es : List Expr} {mk : Addr → CF} {mks : List (Addr → CF)} (hp : plainE e = true) (h : PE X e (tLamR X.K mk)) (hs : PA X es (tLs X.K mks)) : PA X (e :: es) (tLs X.K (mk :: mks)) :=
  (pa_cons h hs (star_plain hp es X.env)).imp fun σ H Q h => by
    obtain ⟨H0, O0, T, δ, st, hq⟩ := h
    refine ⟨H0, O0, T, δ, st, fun f c' H1 st1 => ⟨H0, O0, _, δ, st1, fun fs H2 md st2 => hq ((f, mk c') :: fs) H2 (.cons md) (st2.perm ?_)⟩⟩
    exact List.perm_middle
theorem sah_lams {cls : List Expr} {mks : List (Addr → CF)} (h : PA X cls (tLs X.K mks)) : PA X cls (tAH X.K W (evs []) mks) := h.imp fun σ H Q h => by
  obtain ⟨H0, O0, T, δ, st, hq⟩ := h
  exact ⟨H0, O0, T, δ, st, fun fs H' md st' => hq [] fs H' .nil md (by simpa [tmps] using st')⟩
theorem sah_cons {e : Expr} {es : List Expr} {m : M Opd} {ms : M (List Opd)} {mks : List (Addr → CF)} (hp : plainE e = true) (h : SE X W e m) (hs : PA X es (tAH X.K W ms mks)) : PA X (e :: es) (tAH X.K W (bnd m fun o => bnd ms fun os => ret (o :: os)) mks) :=
  (pa_cons h hs (star_plain hp es X.env)).imp fun σ H Q h => by
    obtain ⟨H0, O0, T, δ, st, hm⟩ := h
    refine ⟨H0, O0, T, δ, st, ?_⟩
    unfold bnd at hm
    cases e1 : m δ with
    | bad => simp only [e1] at hm
    | exn x δ1 => simp only [e1] at hm; exact hm
    | ok o δ1 =>
      simp only [e1] at hm
      show ∀ v H', OpdV σ v o → Ste X.K H0 O0 σ H' δ1 (tmp v o ++ T) → tAH X.K W ms mks σ H' fun xs H2 => Q (v :: xs) H2
      intro v H1 ov st1
      refine ⟨H0, O0, tmp v o ++ T, δ1, st1, ?_⟩
      cases e2 : ms δ1 with
      | bad => simp only [e2] at hm
      | exn x δ2 => simp only [e2] at hm; exact fun cls d H' a b => hm cls d H' a b.drop
      | ok os δ2 =>
        simp only [e2, ret] at hm
        intro vs fs H2 ovs md st2
        exact hm (v :: vs) fs H2 (.cons ov ovs) md (by simpa [tmps] using st2)
end
/-- what is known of a lambda of the running def -/
structure ClS (X : Cx) (kc : Nat) (mk : Addr → CF) (np : Nat) (fr : List Str) (js : List Nat) (g : List PyData → GN) : Prop where
  ok : ∀ f c', CfOk X.prog X.w X.K X.mg X.base kc f (mk c') np fr g
  cp : X.Ok → ∀ c', Caps X (mk c').cl fr js
  ln : ∀ cs ds d, g cs ds = some d → ds.length = np
theorem takes_slots : ∀ {js : List Nat} {δ δ' : DS} {cs : List PyData}, takes (js.map Opd.slot) δ = .ok cs δ' → ∀ j ∈ js, ∃ s, at? δ j = some s
  | [], _, _, _, _, j, hj => by cases hj
  | i :: js, δ, δ', cs, h, j, hj => by
    simp only [List.map_cons, takes, bnd] at h
    cases e1 : takeD (.slot i) δ with
    | bad => simp only [e1] at h; cases h
    | exn x δ1 => simp only [e1] at h; cases h
    | ok d δ1 =>
      simp only [e1] at h
      cases e2 : takes (js.map Opd.slot) δ1 with
      | bad => simp only [e2] at h; cases h
      | exn x δ2 => simp only [e2] at h; cases h
      | ok ds δ2 =>
        unfold takeD take bnd at e1
        cases e3 : at? δ i with
        | none => simp only [e3, Option.bind_none] at e1; cases e1
        | some s =>
          rcases List.mem_cons.mp hj with rfl | hj
          · exact ⟨s, e3⟩
          · by_cases q : i = j
            · subst q; exact ⟨s, e3⟩
            · obtain ⟨s', e4⟩ := takes_slots e2 j hj
              refine ⟨s', ?_⟩
              simp only [e3, Option.bind_some] at e1
              cases e5 : s.data with
              | none => simp only [e5] at e1; cases e1
              | some d0 =>
                simp only [e5] at e1
                simp only [SV.data, ret] at e1
                cases e1
                unfold at? at e4 ⊢
                rw [List.getElem?_set_ne q] at e4
                exact e4
theorem opd_slots {K : PySem.W.Frag} {H0 H : Hp} {O0 : List Addr} {σ : St} {δ : DS} {T : List (V × SV)} (st : Ste K H0 O0 σ H δ T) : ∀ {js : List Nat}, (∀ j ∈ js, ∃ s, at? δ j = some s) → ∃ ws, OpdVs σ ws (js.map Opd.slot) ∧ js.map (slotAt σ) = ws.map some ∧ tmps ws (js.map Opd.slot) = []
  | [], _ => ⟨[], .nil, rfl, rfl⟩
  | j :: js, h => by
    obtain ⟨ws, a, b, c⟩ := opd_slots st (js := js) fun i hi => h i (List.mem_cons_of_mem _ hi)
    obtain ⟨s, e⟩ := h j List.mem_cons_self
    obtain ⟨v, ev, _⟩ := st.slot e
    exact ⟨v :: ws, .cons ev a, by rw [List.map_cons, List.map_cons, b, slotAt_of ev], by simp only [List.map_cons, tmps, c, tmp, List.append_nil]⟩
theorem cell_nf {X : Cx} {pins : List (Addr × Obj)} {σ : St} {H : Hp} {s : Shared} (I : Inv X pins σ H s) (hf : ∀ x, X.fn x = true) {y : Str} {c : Addr} (e : X.env.cells.lookup y = some c) : c ∉ frs X.stack := fun hm => by
  rcases List.mem_cons.mp (I.stkSub c hm) with q | q
  · exact I.cne y c e q
  · obtain ⟨_, o, ho, _⟩ := I.ok.funs.mem q
    exact absurd (Nat.lt_of_lt_of_le (Heap.lt_size ho) (I.ok.cab y c (hf y) e)) (Nat.lt_irrefl _)
theorem clo_at {X : Cx} {pins : List (Addr × Obj)} {σ : St} {H : Hp} {s : Shared} {kc np : Nat} {mk : Addr → CF} {fr : List Str} {js : List Nat} {g : List PyData → GN} {ws : List V} {cs : List PyData} (cl : ClS X kc mk np fr js g) (I : Inv X pins σ H s) (hf : ∀ x, X.fn x = true)
    (e : js.map (slotAt σ) = ws.map some) (f c' : Addr) : CloAt X.prog X.w X.K X.mg X.base kc X.stack s H ⟨f, mk c', ws, cs, g cs⟩ := by
  have C := cells_of I (cl.cp I.ok c')
  rw [e] at C
  exact ⟨⟨np, fr, g, cl.ok f c', C, rfl, cl.ln cs⟩, fun y c q => cell_nf I hf ((cl.cp I.ok c').sub y c q)⟩
section
variable {X : Cx} {W : WX} {as : List Nat} {pos p : Pos}
/-- x(.., lambda, lambda) -/
theorem se_callH2 {x : Str} {np kc k n1 n2 : Nat} {Fm : List HF → FN} {e : Expr} {es : List Expr} {m : M (List Opd)} {mk1 mk2 : Addr → CF} {fr1 fr2 : List Str} {js1 js2 : List Nat} {g1 g2 : List PyData → GN} (c : HalF X.prog X.w X.K X.mg X.base kc k x np Fm) (tk : Takes X W) (hG : X.A.guards = some []) (hr : Room k X.A) (hg : Gl X x) (hf : ∀ x, X.fn x = true)
    (c1 : ClS X kc mk1 n1 fr1 js1 g1) (c2 : ClS X kc mk2 n2 fr2 js2 g2) (ha : PA X (e :: es) (tAH X.K W m [mk1, mk2])) (hp : plainE e = true) (hdb : (x == ("__debug__" : Str)) = false) (hpl : (backTo pos (starEach es X.env)).any (·.1) = false) :
    SE X W (.Call (.Name x p) (e :: es) [] pos) (eCallH2 Fm m js1 js2 g1 g2) := by
  obtain ⟨⟨f0, fd, ps, hng, hm, hk, hb, hps⟩, ar⟩ := c
  refine ⟨fun pins s σ H Q I h => wpAny_Call_Name_kw (ld_glob I hg hm ?_ hdb)⟩
  obtain ⟨H0, O0, T, δ, st, hq⟩ := h
  have key : tAH X.K W m [mk1, mk2] σ H fun vs H1 => Gh (fun H3 => ∃ vs0 f1 a1 f2 a2 ds ws1 cs1 ws2 cs2 r L, vs = vs0 ++ [.ref f1, .ref f2] ∧ Rel X.K H0 O0 H3 (fnT [(f1, mk1 a1), (f2, mk2 a2)] ++ (L ++ T)) ∧ IsAll X.K H3 vs0 ds ∧ js1.map (slotAt σ) = ws1.map some ∧ IsAll X.K H3 ws1 cs1 ∧
      js2.map (slotAt σ) = ws2.map some ∧ IsAll X.K H3 ws2 cs2 ∧ Hands2 Fm ds (g1 cs1) (g2 cs2) r ∧ (∀ d, r = .v d → ∀ v H', Rel X.K H0 O0 H' ((v, .dat d) :: (L ++ T)) → Q v H') ∧ (∀ x, r = .x x → ∀ cls d H', ExnOk X.K H' x cls d → Rel X.K H0 O0 H' (L ++ T) → W cls d σ H')) H1 := by
    refine ⟨H0, O0, T, δ, st, ?_⟩
    unfold eCallH2 bnd at hq
    cases e1 : m δ with
    | bad => simp only [e1] at hq
    | exn y δ1 => simp only [e1] at hq; exact hq
    | ok os δ1 =>
      simp only [e1] at hq
      intro vs0 fs H1 ov md st1
      cases e2 : takes os δ1 with
      | bad => simp only [e2] at hq
      | exn y δ2 => exact absurd e2 takes_noexn
      | ok ds δ2 =>
        simp only [e2] at hq
        have st1' : Ste X.K H0 O0 σ H1 δ1 (tmps vs0 os ++ (fnT fs ++ T)) := st1.perm (by
          rw [← List.append_assoc, ← List.append_assoc]
          exact List.perm_append_comm.append_right T)
        refine Gh.bind (takes_gh (Q := fun H2 => Stays H1 H2 ∧ Ste X.K H0 O0 σ H2 δ2 (fnT fs ++ T) ∧ IsAll X.K H2 vs0 ds) ov st1' e2 fun H2 a b c => ⟨a, b, c⟩) fun H2 ⟨_, st2, ia2⟩ => ?_
        cases e3 : takes (js1.map Opd.slot) δ2 with
        | bad => simp only [e3] at hq
        | exn y δ3 => exact absurd e3 takes_noexn
        | ok cs1 δ3 =>
          simp only [e3] at hq
          obtain ⟨ws1, o1, q1, t1⟩ := opd_slots st2 (takes_slots e3)
          refine Gh.bind (takes_gh (Q := fun H3 => Stays H2 H3 ∧ Ste X.K H0 O0 σ H3 δ3 (fnT fs ++ T) ∧ IsAll X.K H3 ws1 cs1) o1 (by rw [t1]; exact st2) e3 fun H3 a b c => ⟨a, b, c⟩) fun H3 ⟨s23, st3, ia3⟩ => ?_
          cases e4 : takes (js2.map Opd.slot) δ3 with
          | bad => simp only [e4] at hq
          | exn y δ4 => exact absurd e4 takes_noexn
          | ok cs2 δ4 =>
            simp only [e4] at hq
            obtain ⟨ws2, o2, q2, t2⟩ := opd_slots st3 (takes_slots e4)
            refine takes_gh o2 (by rw [t2]; exact st3) e4 fun H4 s34 st4 ia4 => ?_
            unfold mHand2 at hq
            by_cases ex : ∃ r, Hands2 Fm ds (g1 cs1) (g2 cs2) r
            · rw [dif_pos ex] at hq
              have sp := Classical.choose_spec ex
              generalize Classical.choose ex = r at hq sp
              cases md with
              | @cons _ _ f1 a1 _ md =>
                cases md with
                | @cons _ _ f2 a2 _ md =>
                  cases md
                  obtain ⟨L, z, R⟩ := st4
                  refine ⟨vs0, f1, a1, f2, a2, ds, ws1, cs1, ws2, cs2, r, L, rfl, R.perm ?_, ia2.stays (s23.trans s34), q1, ia3.stays s34, q2, ia4, sp, fun d er v H' R' => ?_, fun x er cls d H' a R' => ?_⟩
                  · exact perm3 _ _ _
                  · subst er
                    exact hq v H' True.intro ⟨L, z, R'.perm (List.perm_middle (a := (v, SV.dat d)) (l₁ := L) (l₂ := T)).symm⟩
                  · subst er
                    exact hq cls d H' a ⟨L, z, R'⟩
            · rw [dif_neg ex] at hq
              exact hq.elim
  refine PySem.W.callWith_K (h₀ := X.base) I.ok.mod.kin hk (thn (ha.gh.run pos pins s σ H _ I key) fun us s1 hq1 => ?_) (star_plain hp es X.env) hpl
  obtain ⟨vs, H1, I1, r, vs0, f1, a1, f2, a2, ds, ws1, cs1, ws2, cs2, ro, L, rfl, R, ia, q1, i1, q2, i2, sp, hv, hx⟩ := hq1
  refine ⟨I1.kIn, ?_⟩
  let a : HF := ⟨f1, mk1 a1, ws1, cs1, g1 cs1⟩
  let b : HF := ⟨f2, mk2 a2, ws2, cs2, g2 cs2⟩
  have e0 : Fm [a, b] (hands a b ds) = ro.fr (hands a b ds) := sp a b rfl rfl
  have ln : (hands a b ds).length = np := by
    have := ar [a, b] (hands a b ds)
    rw [e0] at this
    cases ro <;> exact this.1
  have lv : (vs0 ++ [V.ref f1, V.ref f2]).length = np := by
    rw [← ln]; unfold hands; simp [ia.length]
  have hbd : BindsTo s1 fd ⟨us, []⟩ (ps.zip us) := by
    have b := hb s1 us I1.kIn (by rw [List.append_nil, ← r.length, lv, hps])
    rwa [List.append_nil] at b
  have zp : (vs0 ++ [V.ref f1, V.ref f2]).zip (hands a b ds) = vs0.zip (ds.map SV.dat) ++ [(V.ref f1, a.sv), (V.ref f2, b.sv)] := by
    unfold hands
    rw [List.zip_append (by rw [List.length_map]; exact ia.length)]
    rfl
  have R1 : Rel X.K H0 O0 H1 ([(V.ref f1, a.sv), (V.ref f2, b.sv)] ++ (L ++ T)) := R.step (Lc := fnT [(f1, mk1 a1), (f2, mk2 a2)]) fun oc hc nd => by
    cases hc with
    | cons h1 hc =>
      cases hc with
      | cons h2 hc =>
        cases hc
        cases h1 with
        | fn x1 x2 _ =>
          cases h2 with
          | fn y1 y2 _ => exact ⟨[] ++ ([] ++ []), .cons (.fn x1 x2 i1) (.cons (.fn y1 y2 i2) .nil), nd, fun z hz => (by cases hz), Kp.refl _ _⟩
  have wish : spF X.K ps.length (Fm [a, b]) (vs0 ++ [V.ref f1, V.ref f2]) H1 Q (WE W σ) := by
    refine ⟨H0, O0, L ++ T, hands a b ds, by rw [lv, hps], by rw [ln, hps], ?_, ?_⟩
    · rw [zp, List.append_assoc]
      exact Rel.dats ia R1
    · rw [e0]
      cases ro with
      | v d => exact ⟨by rw [ln, hps], fun v H' R' => hv d rfl v H' (by
          have p : ((v, SV.dat d) :: ((vs0 ++ [V.ref f1, V.ref f2]).zip (hands a b ds) ++ (L ++ T))).Perm ((vs0 ++ [V.ref f1, V.ref f2]).zip (hands a b ds) ++ ((v, SV.dat d) :: (L ++ T))) := List.perm_middle.symm
          exact (R'.perm p).drop)⟩
      | x y => exact ⟨by rw [ln, hps], fun cls d H' a R' => hx y rfl cls d H' a R'.drop⟩
  refine wpAny_call (codeAny_mono (hng.go [a, b] X.A X.stack s1 H1 ⟨us, []⟩ us _ Q (WE W σ) hG hr I1.env0 hbd r ?_ wish) fun out s' hq => ?_)
  · intro c hc
    rcases List.mem_cons.mp hc with rfl | hc
    · exact clo_at c1 I1 hf q1 f1 a1
    · rcases List.mem_cons.mp hc with rfl | hc
      · exact clo_at c2 I1 hf q2 f2 a2
      · cases hc
  · rcases out with x | fl
    · exact passAt tk σ pins H1 s1 x s' I1 hq
    · rcases fl with _ | _ | _ | u
      all_goals first | exact I1.after hq | exact False.elim hq
end
/-! ### the lambdas of a def -/
/-- what is known of a def's code object and its table -/
structure TbF (K : PySem.W.Frag) (mg : Str → Option Value) (base : Heap) (f : Addr) (nm : Nat → Nat → Str) : Prop where
  ex : ∃ c P oc od fd osl, K.lookup f = some ⟨oc, od, .func fd, osl⟩ ∧ fd.code = .ref c ∧ TabB base mg c P ∧ (P, nm) ∈ Tb.tt ∧ ∀ p ∈ Tb.tt, p.1 = P → p.2 = nm
theorem tbX_of {P : Program} {w : World} {K : PySem.W.Frag} {mg : Str → Option Value} {base : Heap} {N : List Str} {qual : Str} {scope : Scope} {f : Addr} {cdv : Value} {A : Around} {outer : List Env} {s : Shared} {H : Hp} {E : XK} {nm : Nat → Nat → Str} (t : TbF K mg base f nm) (h : CdO K f cdv) : TbX (Bx P w K mg base N qual scope f cdv A outer s H E) nm := by
  obtain ⟨c, P, oc, od, fd, osl, e1, e2, e3⟩ := t.ex
  obtain ⟨oc', od', fd', osl', e1', e2'⟩ := h
  rw [e1] at e1'
  cases e1'
  exact ⟨c, P, e2'.symm.trans e2, e3⟩
theorem cls_lam {X : Cx} {kc np nl : Nat} {params : Arguments} {body : Expr} {scope : Scope} {N ps fr : List Str} {js : List Nat} {m : M Opd} (S : NScope N ps fr scope) (hnp : ps.length = np) (hN : N.length = np + (fr.length + nl))
    (hbind : ∀ (F : CF) (doc pm ctv : Value) (us : List Value), F.params = params → us.length = ps.length → bindArgs (F.fd doc pm ctv) ⟨us, []⟩ = pure (ps.zip us))
    (hfree : ∀ y ∈ scope.names, y.2 = .free → X.env.scope.names.lookup y.1 = some .cell ∨ X.env.scope.names.lookup y.1 = some .free) (hfr : ∀ y ∈ fr, (y, NameKind.free) ∈ scope.names) (hjs : js.map (fun j => X.N[j]?) = fr.map some)
    (hm : ∀ (f c' : Addr) (A : Around) (outer : List Env) (s : Shared) (H : Hp) (E : XK), A.guards = some [] → Room kc (A.deeper (envF (lamF X params body scope c').nf f s.heap.objs.size)) → ∃ W : WX, SE (Lx X.prog X.w X.K X.mg X.base N (lamF X params body scope c') f A outer s H E) W body m) :
    ClS X (kc + 1) (lamF X params body scope) np fr js (gLam np fr.length nl m) where
  ok := fun f c' => cf_lam (F := lamF X params body scope c') S hnp hN rfl (fun doc pm ctv us => hbind _ doc pm ctv us rfl) (hm f c')
  cp := fun ok c' => Caps.made ok hfree hfr hjs
  ln := fun cs ds d h => by
    unfold gLam at h
    split at h
    · rename_i q; exact q.1
    · cases h
end Ev

/-! D34: zip(a, b, strict=True) over any two of list, tuple, text, of one length: its making, its turns. -/
namespace Ev
open PySem PySem.Spec L2
open PyProof.Rows hiding St
open Builtin.SmallTypes

/-- a zip that wants all to end at once -/
abbrev IsZs (h : Heap) (z TI TO : Addr) (f0 : Value) : Prop :=
  h.get? z = some { cls := .type "zip", dict := none, data := .fields #[f0, .bool false, .bool true, .ref TI, .ref TO], slots := #[] }
section
variable {prog : Program} {w : World} {A : Around} {E : Value → Shared → Prop} {s : Shared} {z TI TO i1 i2 : Addr} {fp1 fp2 : List Addr} {n1 n2 n i : Nat} {P1 P2 : Nat → Value → Prop} {St1 St2 : Nat → Heap → Prop} {a1 a2 : Value}
theorem oe_item {it : Addr} {fp : List Addr} {P : Nat → Value → Prop} {Sx : Nat → Heap → Prop} {Q : Option Value → Shared → Prop} (D : Draws prog w A it fp n P Sx) (hi : i < n) (st : Sx i s.heap)
    (hQ : ∀ x h' tk, P i x → Sx (i + 1) h' → Heap.SameBut it s.heap h' → Q (some x) { s with heap := h', toks := tk }) : wpAny (model prog w) A (nextOrEnd (.ref it)) Q E s := by
  unfold nextOrEnd
  exact wpAny_bind (wpAny_attempt (D.item i s _ _ hi st fun x h' tk a b c => wpAny_pure (hQ x h' tk a b c)))
theorem oe_end {it : Addr} {fp : List Addr} {P : Nat → Value → Prop} {Sx : Nat → Heap → Prop} {Q : Option Value → Shared → Prop} (D : Draws prog w A it fp n P Sx) (st : Sx n s.heap)
    (hQ : ∀ h' tk, Heap.ExtBut it s.heap h' → Q none { s with heap := h', toks := tk }) : wpAny (model prog w) A (nextOrEnd (.ref it)) Q E s := by
  unfold nextOrEnd
  refine wpAny_bind (wpAny_attempt (D.done s _ _ st fun h' e x he => ?_))
  obtain ⟨o, ho, hc⟩ := he
  refine wpAny_bind (wpAny_isInstance (T := "StopIteration") (b := true) ⟨o, ho, hc⟩ isSubtype_stop ?_)
  exact wpAny_pure (hQ h' _ x)
theorem zs_item {Q : Value → Shared → Prop} (S : ZipSep2 z TI TO i1 i2 fp1 fp2) (D1 : Draws prog w A i1 fp1 n1 P1 St1) (D2 : Draws prog w A i2 fp2 n2 P2 St2)
    (hz : IsZs s.heap z TI TO .none) (hTI : IsTupOf2 s.heap TI (.ref i1) (.ref i2)) (hTO : IsTupOf2 s.heap TO a1 a2) (t1 : St1 i s.heap) (t2 : St2 i s.heap) (l1 : i < n1) (l2 : i < n2)
    (hQ : ∀ x1 x2 h' tk, P1 i x1 → P2 i x2 → IsZs h' z TI TO (rawInt s.heap.objs.size) → IsTupOf2 h' TO x1 x2 → St1 (i + 1) h' → St2 (i + 1) h' → IsTupOf2 h' s.heap.objs.size x1 x2 → h'.objs.size = s.heap.objs.size + 1 →
      (∀ c o, c ≠ z → c ≠ TO → c ≠ i1 → c ≠ i2 → s.heap.get? c = some o → h'.get? c = some o) → Q (.ref s.heap.objs.size) { s with heap := h', toks := tk }) :
    wpAny (model prog w) A (Builtin.«zip.__next__» ⟨[.ref z], []⟩) (fun out s' => ∃ v, out = .done (.ret v) ∧ Q v s') E s := by
  obtain ⟨hp, gn, dr, tk0, so⟩ := s
  show wpAny _ _ (field (.ref z) 2 >>= _) _ _ _
  refine wpAny_bind (wpAny_field hz rfl (x := .bool true) rfl ?_)
  show wpAny _ _ (field (.ref z) 3 >>= _) _ _ _
  refine wpAny_bind (wpAny_field hz rfl (x := .ref TI) rfl (wpAny_bind (wpAny_seqItems hTI rfl ?_)))
  show wpAny _ _ (ownedTupleIsFree (.ref z) >>= _) _ _ _
  refine wpAny_bind ?_
  unfold ownedTupleIsFree
  refine wpAny_bind (wpAny_field hz rfl (x := .none) rfl (wpAny_pure ?_))
  simp only [if_true]
  refine wpAny_bind (wpAny_rule (wpAny_bind (wpAny_field hz rfl (x := .ref TO) rfl (wpAny_bind (wpAny_setField_rec hz (by simp) fun g0 hz0 hs0 => ?_)))))
  replace hz0 : IsZs g0 z TI TO .ellipsis := hz0
  replace hs0 : Heap.SameBut z hp g0 := hs0
  refine wpAny_bind ?_
  simp only [List.zipIdx_cons, List.zipIdx_nil, List.forIn_cons, List.forIn_nil]
  refine wpAny_bind (wpAny_bind (wpAny_onRaise ?_))
  show wpAny _ _ (nextOrEnd (.ref i1)) _ _ ⟨g0, gn, dr, tk0, so⟩
  refine oe_item D1 l1 (D1.over t1 hs0 S.zf1) fun x1 p1 tk1 hx1 sn1 hp1 => ?_
  replace hp1 : Heap.SameBut i1 g0 p1 := hp1
  have u1 : IsTupOf2 p1 TO a1 a2 := hp1.extBut _ _ S.Ti1 (hs0.extBut _ _ S.TOz hTO)
  refine wpAny_bind (wpAny_seqItems (s := ⟨p1, gn, dr, tk1, so⟩) u1 rfl (wpAny_bind (updateSeq_IsTupOf2 (s := ⟨p1, gn, dr, tk1, so⟩) u1 fun g1 hT1 hs1 => ?_)))
  replace hT1 : IsTupOf2 g1 TO x1 a2 := hT1
  replace hs1 : Heap.SameBut TO p1 g1 := hs1
  refine wpAny_bind (wpAny_letGo (wpAny_pure (wpAny_bind (wpAny_bind (wpAny_onRaise ?_)))))
  show wpAny _ _ (nextOrEnd (.ref i2)) _ _ ⟨g1, gn, dr, tk1, so⟩
  refine oe_item D2 l2 (D2.over (D2.over (D2.over t2 hs0 S.zf2) hp1 S.sep1_2) hs1 S.Tf2) fun x2 p2 tk2 hx2 sn2 hp2 => ?_
  replace hp2 : Heap.SameBut i2 g1 p2 := hp2
  have u2 : IsTupOf2 p2 TO x1 a2 := hp2.extBut _ _ S.Ti2 hT1
  refine wpAny_bind (wpAny_seqItems (s := ⟨p2, gn, dr, tk2, so⟩) u2 rfl (wpAny_bind (updateSeq_IsTupOf2 (s := ⟨p2, gn, dr, tk2, so⟩) u2 fun g2 hT2 hs2 => ?_)))
  replace hT2 : IsTupOf2 g2 TO x1 x2 := hT2
  replace hs2 : Heap.SameBut TO p2 g2 := hs2
  refine wpAny_bind (wpAny_letGo (wpAny_pure (wpAny_pure (wpAny_bind (wpAny_seqItems (s := ⟨g2, gn, dr, tk2, so⟩) hT2 rfl (wpAny_bind (wpAny_newTuple ?_)))))))
  have hsz : g2.objs.size = hp.objs.size := by rw [hs2.1, hp2.1, hs1.1, hp1.1, hs0.1]
  have zz : IsZs g2 z TI TO .ellipsis := hs2.extBut _ _ S.TOz.symm (hp2.extBut _ _ S.zi2 (hs1.extBut _ _ S.TOz.symm (hp1.extBut _ _ S.zi1 hz0)))
  have kk : ∀ c o, c ≠ z → c ≠ TO → c ≠ i1 → c ≠ i2 → hp.get? c = some o → g2.get? c = some o := fun c o cz cT c1 c2 e => hs2.extBut _ _ cT (hp2.extBut _ _ c2 (hs1.extBut _ _ cT (hp1.extBut _ _ c1 (hs0.extBut _ _ cz e))))
  have j1 : St1 (i + 1) g2 := D1.over (D1.over (D1.over sn1 hs1 S.Tf1) hp2 S.sep2_1) hs2 S.Tf1
  have j2 : St2 (i + 1) g2 := D2.over sn2 hs2 S.Tf2
  have zlt : z < g2.objs.size := Heap.lt_size zz
  show wpAny _ _ (ownedTupleHandOut (.ref z) (.ref g2.objs.size) >>= _) _ _ ⟨g2.push { cls := .type "tuple", data := .seq #[x1, x2] }, gn, dr, tk2, so⟩
  refine wpAny_bind ?_
  unfold ownedTupleHandOut
  have z6 : IsZs (g2.push { cls := .type "tuple", data := .seq #[x1, x2] }) z TI TO .ellipsis := Heap.get?_push_of_some _ zz
  refine wpAny_bind (wpAny_setField_rec z6 (by simp) fun h7 z7 s7 => ?_)
  replace z7 : IsZs h7 z TI TO (rawInt g2.objs.size) := z7
  refine wpAny_setField_rec z7 (by simp) fun h8 z8 s8 => ?_
  replace z8 : IsZs h8 z TI TO (rawInt g2.objs.size) := z8
  replace s7 : Heap.SameBut z (g2.push { cls := .type "tuple", data := .seq #[x1, x2] }) h7 := s7
  replace s8 : Heap.SameBut z h7 h8 := s8
  have upp : ∀ c o, c ≠ z → g2.get? c = some o → h8.get? c = some o := fun c o c1 e => s8.extBut _ _ c1 (s7.extBut _ _ c1 (Heap.get?_push_of_some _ e))
  have hT8 : IsTupOf2 h8 g2.objs.size x1 x2 := s8.extBut _ _ (Nat.ne_of_gt zlt) (s7.extBut _ _ (Nat.ne_of_gt zlt) (Heap.get?_push_size _ rfl))
  have sz8 : h8.objs.size = g2.objs.size + 1 := by rw [s8.1, s7.1, Heap.size_push]
  rw [hsz] at z8 hT8 sz8
  refine wpAny_pure ⟨_, rfl, ?_⟩
  show Q (.ref g2.objs.size) ⟨h8, gn, dr, tk2, so⟩
  rw [hsz]
  refine hQ x1 x2 h8 tk2 hx1 hx2 z8 (upp _ _ S.TOz hT2) (D1.frame _ _ _ j1 fun b hb o e => upp b o (fun q => S.zf1 (q ▸ hb)) e) (D2.frame _ _ _ j2 fun b hb o e => upp b o (fun q => S.zf2 (q ▸ hb)) e) hT8 sz8 ?_
  exact fun c o cz cT c1 c2 e => upp c o cz (kk c o cz cT c1 c2 e)
theorem zs_end {Q : Fin → Shared → Prop} (hh : A.handled = none) (S : ZipSep2 z TI TO i1 i2 fp1 fp2) (D1 : Draws prog w A i1 fp1 n P1 St1) (D2 : Draws prog w A i2 fp2 n P2 St2)
    (hz : IsZs s.heap z TI TO .none) (hTI : IsTupOf2 s.heap TI (.ref i1) (.ref i2)) (hTO : IsTupOf2 s.heap TO a1 a2) (t1 : St1 n s.heap) (t2 : St2 n s.heap)
    (hE : ∀ h' tk e, (∀ c o, c ≠ z → c ≠ TO → c ≠ i1 → c ≠ i2 → s.heap.get? c = some o → h'.get? c = some o) → (∃ o, h'.get? e = some o ∧ o.cls = .type "StopIteration") → E (.ref e) { s with heap := h', toks := tk }) :
    wpAny (model prog w) A (Builtin.«zip.__next__» ⟨[.ref z], []⟩) Q E s := by
  obtain ⟨hp, gn, dr, tk0, so⟩ := s
  show wpAny _ _ (field (.ref z) 2 >>= _) _ _ _
  refine wpAny_bind (wpAny_field hz rfl (x := .bool true) rfl ?_)
  show wpAny _ _ (field (.ref z) 3 >>= _) _ _ _
  refine wpAny_bind (wpAny_field hz rfl (x := .ref TI) rfl (wpAny_bind (wpAny_seqItems hTI rfl ?_)))
  show wpAny _ _ (ownedTupleIsFree (.ref z) >>= _) _ _ _
  refine wpAny_bind ?_
  unfold ownedTupleIsFree
  refine wpAny_bind (wpAny_field hz rfl (x := .none) rfl (wpAny_pure ?_))
  simp only [if_true]
  refine wpAny_bind (wpAny_rule (wpAny_bind (wpAny_field hz rfl (x := .ref TO) rfl (wpAny_bind (wpAny_setField_rec hz (by simp) fun g0 hz0 hs0 => ?_)))))
  replace hz0 : IsZs g0 z TI TO .ellipsis := hz0
  replace hs0 : Heap.SameBut z hp g0 := hs0
  refine wpAny_bind ?_
  simp only [List.zipIdx_cons, List.zipIdx_nil, List.forIn_cons, List.forIn_nil]
  refine wpAny_bind (wpAny_bind (wpAny_onRaise ?_))
  show wpAny _ _ (nextOrEnd (.ref i1)) _ _ ⟨g0, gn, dr, tk0, so⟩
  refine oe_end D1 (D1.over t1 hs0 S.zf1) fun p1 tk1 hp1 => ?_
  replace hp1 : Heap.ExtBut i1 g0 p1 := hp1
  have zp : IsZs p1 z TI TO .ellipsis := hp1 _ _ S.zi1 hz0
  refine wpAny_bind (wpAny_setField_rec (s := ⟨p1, gn, dr, tk1, so⟩) zp (by simp) fun g1 hz1 hs1 => ?_)
  replace hs1 : Heap.SameBut z p1 g1 := hs1
  refine wpAny_bind ?_
  show wpAny _ _ ((do
    for (it, j) in [(Value.ref i2, 1)] do
      if (← nextOrEnd it).isSome then
        rule "zip.__next__.longer"; raiseError "ValueError" s!"zip() argument {j + 1} is longer than {if j == 1 then "argument 1" else s!"arguments 1-{j}"}"
    rule "zip.__next__.all-ended"; stopIteration : Sem Fin)) _ _ _
  simp only [List.forIn_cons, List.forIn_nil]
  refine wpAny_bind (wpAny_bind (wpAny_bind ?_))
  refine oe_end (s := ⟨g1, gn, dr, tk1, so⟩) D2 (D2.over (D2.frame _ _ _ (D2.over t2 hs0 S.zf2) fun b hb o e => hp1 b o (fun q => S.sep1_2 (q ▸ hb)) e) hs1 S.zf2) fun p2 tk2 hp2 => ?_
  replace hp2 : Heap.ExtBut i2 g1 p2 := hp2
  rw [if_neg (by simp)]
  refine wpAny_pure (wpAny_pure (wpAny_bind (wpAny_rule ?_)))
  show wpAny _ _ (newExc (.type "StopIteration") [] >>= _) _ _ ⟨p2, gn, dr, tk2, so⟩
  refine wpAny_bind ?_
  simp only [newExc, newTuple]
  refine wpAny_bind (wpAny_newObj_type ?_ (by size_fits))
  refine wpAny_bind (m := firstArgMember _ _) (wpAny_of_eq (a := Value.none) (by first | rfl | (simp only [firstArgMember]; rfl)) (wpAny_newObj_type ?_ (by size_fits)))
  simp only [raiseNew]
  refine wpAny_bind (wpAny_handled ?_)
  rw [hh]
  refine wpAny_bind (wpAny_pure (wpAny_throw ?_))
  refine hE _ _ _ (fun c o cz cT c1 c2 e => ?_) ⟨_, Heap.get?_push_size _ rfl, rfl⟩
  exact Heap.get?_push_of_some _ (Heap.get?_push_of_some _ (hp2 _ _ c2 (hs1.extBut _ _ cz (hp1 _ _ c1 (hs0.extBut _ _ cz e)))))
end
section
variable {prog : Program} {w : World} {A : Around} {E : Value → Shared → Prop} {s : Shared} {z TI TO i1 i2 : Addr} {fp1 fp2 : List Addr} {n1 n2 n i : Nat} {P1 P2 : Nat → Value → Prop} {St1 St2 : Nat → Heap → Prop} {a1 a2 : Value}
theorem zs_pyItem {Q : Option Value → Shared → Prop} (S : ZipSep2 z TI TO i1 i2 fp1 fp2) (D1 : Draws prog w A.in1 i1 fp1 n1 P1 St1) (D2 : Draws prog w A.in1 i2 fp2 n2 P2 St2)
    (hz : IsZs s.heap z TI TO .none) (hTI : IsTupOf2 s.heap TI (.ref i1) (.ref i2)) (hTO : IsTupOf2 s.heap TO a1 a2) (t1 : St1 i s.heap) (t2 : St2 i s.heap) (l1 : i < n1) (l2 : i < n2)
    (hQ : ∀ x1 x2 h' tk, P1 i x1 → P2 i x2 → IsZs h' z TI TO (rawInt s.heap.objs.size) → IsTupOf2 h' TO x1 x2 → St1 (i + 1) h' → St2 (i + 1) h' → IsTupOf2 h' s.heap.objs.size x1 x2 → h'.objs.size = s.heap.objs.size + 1 →
      (∀ c o, c ≠ z → c ≠ TO → c ≠ i1 → c ≠ i2 → s.heap.get? c = some o → h'.get? c = some o) → Q (some (.ref s.heap.objs.size)) { s with heap := h', toks := tk }) :
    wpAny (model prog w) A (pyNext (.ref z)) Q E s := by
  have tz : s.TypeIs (.ref z) "zip" := ⟨_, hz, rfl⟩
  unfold pyNext
  refine wpAny_bind (wpAny_attempt (wpAny_callSpecial?_slot (name := Str.ofString "__next__") tz F.slot_zip_next (wpAny_call_entry F.slot_zip_next tz F.entry_zip_next ?_ (F.args_zip_next_1 _))))
  exact zs_item S D1 D2 hz hTI hTO t1 t2 l1 l2 fun x1 x2 h' tk y1 y2 b1 b2 d1 d2 b5 b6 b7 => wpAny_pure (hQ x1 x2 h' tk y1 y2 b1 b2 d1 d2 b5 b6 b7)
theorem zs_pyEnd {Q : Option Value → Shared → Prop} (hh : A.handled = none) (S : ZipSep2 z TI TO i1 i2 fp1 fp2) (D1 : Draws prog w A.in1 i1 fp1 n P1 St1) (D2 : Draws prog w A.in1 i2 fp2 n P2 St2)
    (hz : IsZs s.heap z TI TO .none) (hTI : IsTupOf2 s.heap TI (.ref i1) (.ref i2)) (hTO : IsTupOf2 s.heap TO a1 a2) (t1 : St1 n s.heap) (t2 : St2 n s.heap)
    (hQ : ∀ h' tk, (∀ c o, c ≠ z → c ≠ TO → c ≠ i1 → c ≠ i2 → s.heap.get? c = some o → h'.get? c = some o) → Q none { s with heap := h', toks := tk }) : wpAny (model prog w) A (pyNext (.ref z)) Q E s := by
  have tz : s.TypeIs (.ref z) "zip" := ⟨_, hz, rfl⟩
  unfold pyNext
  refine wpAny_bind (wpAny_attempt (wpAny_callSpecial?_slot (name := Str.ofString "__next__") tz F.slot_zip_next (wpAny_call_entry F.slot_zip_next tz F.entry_zip_next (zs_end (A := A.in1) hh S D1 D2 hz hTI hTO t1 t2 fun h' tk e hk he => ?_) (F.args_zip_next_1 _))))
  obtain ⟨o, ho, hc⟩ := he
  refine wpAny_bind (wpAny_isInstance (T := "StopIteration") (b := true) ⟨o, ho, hc⟩ isSubtype_stop ?_)
  exact wpAny_pure (hQ _ _ hk)
theorem zs_letGo {elts : List Expr} {x1} {pos : Pos} {T : Addr} {Q : Unit → Shared → Prop} (hz : IsZs s.heap z TI TO (rawInt T)) (hQ : ∀ h', IsZs h' z TI TO .none → Heap.SameBut z s.heap h' → Q () { s with heap := h' }) :
    wpAny (model prog w) A (letOwnedTupleGo (.Tuple elts x1 pos) (.ref z) (.ref T)) Q E s := by
  unfold letOwnedTupleGo
  refine wpAny_bind (wpAny_load hz ?_)
  show wpAny _ _ (if (["enumerate", "zip", "dict_itemiterator", "dict_reverseitemiterator", "odict_iterator", "itertools.zip_longest", "itertools.pairwise"].contains "zip" && (#[rawInt T, .bool false, .bool true, .ref TI, .ref TO] : Array Value)[0]? == some (rawInt T)) = true then _ else _) Q E s
  rw [if_pos (by simp)]
  refine wpAny_bind (wpAny_rule ?_)
  show wpAny _ _ (setField (.ref z) 0 .none) Q E s
  exact wpAny_setField_rec hz (by simp) fun h' hz' hs' => hQ h' hz' hs'
theorem zs_pyIter {f0 : Value} {Q : Value → Shared → Prop} (hz : IsZs s.heap z TI TO f0) (h : Q (.ref z) s) : wpAny (model prog w) A (pyIter (.ref z)) Q E s := by
  have tz : s.TypeIs (.ref z) "zip" := ⟨_, hz, rfl⟩
  refine wpAny_pyIter_slot tz F.slot_zip_iter (wpAny_call_entry F.slot_zip_iter tz F.entry_zip_iter ?_ (F.args_zip_iter_1 _))
  show wpAny _ _ (PySem.ret (.ref z)) _ _ s
  exact wpAny_pure ⟨_, rfl, "zip", _, tz, F.slot_zip_next.lookup, h⟩
end
theorem tc_zs (a b c : Value) : checkTypeCall "zip" ⟨[a, b], [(Str.ofString "strict", c)]⟩ = pure () := by kernel_rfl
theorem nc_zs (a b c : Value) : checkBuiltinCall "zip.__new__" ⟨[.type "zip", a, b], [(Str.ofString "strict", c)]⟩ = pure () := by kernel_rfl
theorem oi_zs (obj a b c : Value) : argsOk "object.__init__" ⟨[obj, a, b], [(Str.ofString "strict", c)]⟩ := by unfold argsOk; kernel_rfl
abbrev zsT (h : Heap) (o1 o2 : Obj) : Heap := ((h.push o1).push o2).push { cls := .type "tuple", data := .seq #[.ref h.objs.size, .ref (h.push o1).objs.size] }
abbrev zsO (h : Heap) (o1 o2 : Obj) : Heap := (zsT h o1 o2).push { cls := .type "tuple", data := .seq #[.none, .none] }
abbrev zsZ (h : Heap) (o1 o2 : Obj) : Heap := (zsO h o1 o2).push { cls := .type "zip", data := .fields #[.none, .bool false, .bool true, .ref ((h.push o1).push o2).objs.size, .ref (zsT h o1 o2).objs.size] }
theorem meets_zs {v1 v2 : Value} {o1 o2 : Obj} {H1 H2 : Heap → Prop} (B1 : Begins v1 o1 H1) (B2 : Begins v2 o2 H2) :
    Meets (Builtin.«zip.__new__» ⟨[.type "zip", v1, v2], [(Str.ofString "strict", .bool true)]⟩) (fun _ R s => (H1 s.heap ∧ H2 s.heap) ∧ R (.ok (.ret (.ref (zsO s.heap o1 o2).objs.size))) { s with heap := zsZ s.heap o1 o2 }) :=
  .of_wp fun prog w A R s h => by
    obtain ⟨hp, gn, dr, tk, so⟩ := s; obtain ⟨⟨h1, h2⟩, h⟩ := h
    have hsub := sub_zip
    have e1 : (Str.ofString "strict" != ("strict" : Str)) = false := by decide +kernel
    have q1 : ∀ {A' : Around} {E : Value → Shared → Prop} {Q : Value → Shared → Prop}, Q (.ref hp.objs.size) ⟨(hp.push o1), gn, dr, tk, so⟩ → wpAny (model prog w) A' (pyIter v1) Q E ⟨hp, gn, dr, tk, so⟩ := fun q => B1.iter prog w _ _ ⟨hp, gn, dr, tk, so⟩ _ (B1.keeps _ _ h1 fun b o' e => e) q
    have q2 : ∀ {A' : Around} {E : Value → Shared → Prop} {Q : Value → Shared → Prop}, Q (.ref (hp.push o1).objs.size) ⟨((hp.push o1).push o2), gn, dr, tk, so⟩ → wpAny (model prog w) A' (pyIter v2) Q E ⟨(hp.push o1), gn, dr, tk, so⟩ := fun q => B2.iter prog w _ _ ⟨(hp.push o1), gn, dr, tk, so⟩ _ (B2.keeps _ _ h2 fun b o' e => (Heap.get?_push_of_some _ e)) q
    wp_walk using q1, q2
    exact ⟨_, rfl, h⟩
end Ev

/-! D35: zip(a, b, strict=True) as what a for walks. -/
namespace Ev
open PySem PySem.Spec L2
open PyProof.Rows hiding St
variable [Tb]

/-- its five new cells -/
theorem zs_begins {prog : Program} {w : World} {A : Around} {E : Value → Shared → Prop} {s : Shared} {v1 v2 : Value} {o1 o2 : Obj} {H1 H2 : Heap → Prop} {Q : Value → Shared → Prop} (B1 : Begins v1 o1 H1) (B2 : Begins v2 o2 H2) (h1 : H1 s.heap) (h2 : H2 s.heap)
    (h : ∀ h', IsZs h' (s.heap.objs.size + 4) (s.heap.objs.size + 2) (s.heap.objs.size + 3) .none → IsTupOf2 h' (s.heap.objs.size + 2) (.ref s.heap.objs.size) (.ref (s.heap.objs.size + 1)) →
      IsTupOf2 h' (s.heap.objs.size + 3) .none .none → h'.get? s.heap.objs.size = some o1 → h'.get? (s.heap.objs.size + 1) = some o2 → (∀ c o, s.heap.get? c = some o → h'.get? c = some o) → Q (.ref (s.heap.objs.size + 4)) { s with heap := h' }) :
    wpAny (model prog w) A (call (.type "zip") [v1, v2] [(Str.ofString "strict", .bool true)]) Q E s := by
  refine callType_newKw F.called_zip (by decide) (tc_zs _ _ _) (nc_zs _ _ _) (fun obj => oi_zs obj _ _ _) F.entry_zip_new (meets_zs B1 B2) ⟨⟨h1, h2⟩, ?_⟩
  have n1 : (s.heap.push o1).objs.size = s.heap.objs.size + 1 := by rw [Heap.size_push]
  have n2 : ((s.heap.push o1).push o2).objs.size = s.heap.objs.size + 2 := by rw [Heap.size_push, n1]
  have n3 : (zsT s.heap o1 o2).objs.size = s.heap.objs.size + 3 := by rw [Heap.size_push, n2]
  have n4 : (zsO s.heap o1 o2).objs.size = s.heap.objs.size + 4 := by rw [Heap.size_push, n3]
  have up1 : ∀ c o, s.heap.get? c = some o → (s.heap.push o1).get? c = some o := fun c o e => Heap.get?_push_of_some _ e
  have up2 : ∀ c o, (s.heap.push o1).get? c = some o → (zsZ s.heap o1 o2).get? c = some o := fun c o e => Heap.get?_push_of_some _ (Heap.get?_push_of_some _ (Heap.get?_push_of_some _ (Heap.get?_push_of_some _ e)))
  have gz : (zsZ s.heap o1 o2).get? (zsO s.heap o1 o2).objs.size = some { cls := .type "zip", data := .fields #[.none, .bool false, .bool true, .ref ((s.heap.push o1).push o2).objs.size, .ref (zsT s.heap o1 o2).objs.size] } := Heap.get?_push_size _ rfl
  have go : (zsZ s.heap o1 o2).get? (zsT s.heap o1 o2).objs.size = some { cls := .type "tuple", data := .seq #[.none, .none] } := Heap.get?_push_of_some _ (Heap.get?_push_size _ rfl)
  have gt : (zsZ s.heap o1 o2).get? ((s.heap.push o1).push o2).objs.size = some { cls := .type "tuple", data := .seq #[.ref s.heap.objs.size, .ref (s.heap.push o1).objs.size] } := Heap.get?_push_of_some _ (Heap.get?_push_of_some _ (Heap.get?_push_size _ rfl))
  have g1 : (zsZ s.heap o1 o2).get? s.heap.objs.size = some o1 := up2 _ _ (Heap.get?_push_size _ B1.free)
  have g2 : (zsZ s.heap o1 o2).get? (s.heap.push o1).objs.size = some o2 := Heap.get?_push_of_some _ (Heap.get?_push_of_some _ (Heap.get?_push_of_some _ (Heap.get?_push_size _ B2.free)))
  rw [n4, n3, n2] at gz
  rw [n3] at go
  rw [n2, n1] at gt
  rw [n1] at g2
  show _ ∧ _
  rw [n4]
  exact ⟨⟨_, gz, rfl⟩, h _ gz gt go g1 g2 fun c o e => up2 c o (up1 c o e)⟩
/-- both of one length, the items in new pairs -/
def Itzs (K : PySem.W.Frag) (k1 k2 : Kd) : It :=
  ⟨fun i H => ∃ xs ys, k1.has K H xs ∧ k2.has K H ys ∧ i < xs.length ∧ i < ys.length,
    fun i H v H' => ∃ T x y, v = .ref T ∧ H T = none ∧ H' = upd H T (.tup [x, y]) ∧ (∀ xs, k1.has K H xs → xs[i]? = some x) ∧ ∀ ys, k2.has K H ys → ys[i]? = some y,
    fun i H => ∃ xs ys, k1.has K H xs ∧ k2.has K H ys ∧ i = xs.length ∧ i = ys.length⟩
theorem turn_zs {P : Program} {w : World} {K : PySem.W.Frag} {elts : List Expr} {kk : Nat} {tpos : Pos} {z TI TO i1 i2 : Addr} {k1 k2 : Kd} (D : Zap z TI TO i1 i2 k1 k2) :
    Turn P w K (.Tuple elts kk tpos) (Itzs K k1 k2) [z, TI, TO, i1, i2] z (fun i h => IsZs h z TI TO .none ∧ IsTupOf2 h TI (.ref i1) (.ref i2) ∧ (∃ x y, IsTupOf2 h TO x y) ∧ k1.it i1 i h ∧ k2.it i2 i h) where
  mem := by simp
  obj := fun i h st c hc => by
    obtain ⟨hz, hTI, ⟨x, y, hTO⟩, h1, h2⟩ := st
    have e' : c = z ∨ c = TI ∨ c = TO ∨ c = i1 ∨ c = i2 := by simpa using hc
    rcases e' with rfl | rfl | rfl | rfl | rfl
    · exact ⟨_, hz, fun v q => nomatch q⟩
    · exact ⟨_, hTI, fun v q => nomatch q⟩
    · exact ⟨_, hTO, fun v q => nomatch q⟩
    · exact Kd.there (k := k1) h1
    · exact Kd.there (k := k2) h2
  keep := fun i h h' st k => by
    obtain ⟨hz, hTI, ⟨x, y, hTO⟩, h1, h2⟩ := st
    exact ⟨k z (by simp) _ hz, k TI (by simp) _ hTI, ⟨x, y, k TO (by simp) _ hTO⟩, Kd.keep (k := k1) h1 (k i1 (by simp)), Kd.keep (k := k2) h2 (k i2 (by simp))⟩
  item := by
    intro X hP hw hK hc i pins s σ H E I hf st hg
    subst hP hw hK
    obtain ⟨hz, hTI, ⟨x0, y0, hTO⟩, h1, h2⟩ := st
    obtain ⟨xs, ys, hx, hy, l1, l2⟩ := hg
    obtain ⟨fp1, P1, S1, D1, m1, f1, u1, v1, w1⟩ := Kd.draws I (I.ok.hd hc) hx i1 (fun q => (D.c1 _ (.inl q)).2.2.1 rfl)
    obtain ⟨fp2, P2, S2, D2, m2, f2, u2, v2, w2⟩ := Kd.draws I (I.ok.hd hc) hy i2 (fun q => (D.c1 _ (.inr q)).2.2.2 rfl)
    have hzl : z < s.heap.objs.size := Heap.lt_size hz
    refine zs_pyItem (D.sep m1 m2 f1 f2) D1 D2 hz hTI hTO (u1 i h1) (u2 i h2) l1 l2 fun x1 x2 h' tk p1 p2 z' TO' s1 s2 hT hsz hk => ?_
    obtain ⟨x, ex, rx⟩ := w1 i x1 p1
    obtain ⟨y, ey, ry⟩ := w2 i x2 p2
    refine ⟨_, rfl, zs_letGo (s := { s with heap := h', toks := tk }) z' fun h'' z'' sb => ?_⟩
    have hT2 : h''.get? s.heap.objs.size = some { cls := .type "tuple", data := .seq #[x1, x2] } := (sb.2 _ (Nat.ne_of_gt hzl)).trans hT
    have new : ObjOk X.prog X.w (upd H s.heap.objs.size (.tup [x, y])) h'' s.heap.objs.size (.tup [x, y]) := ⟨by show 2 ≤ sizeLine; decide, [x1, x2], .cons rx (.cons ry .nil), ⟨_, hT2, rfl, _, rfl⟩⟩
    have I1 : Inv X pins σ (upd H s.heap.objs.size (.tup [x, y])) { s with heap := h'', toks := tk } :=
      I.turnedNew (t' := tk) (ch := [z, TI, TO, i1, i2]) (fun c o hb q => (sb.2 c (fun q' => hb (by simp [q']))).trans (hk c o (fun q' => hb (by simp [q'])) (fun q' => hb (by simp [q'])) (fun q' => hb (by simp [q'])) (fun q' => hb (by simp [q'])) q)) hf (Nat.le_refl _) new
    refine ⟨.ref s.heap.objs.size, _, I1, rfl, ⟨_, x, y, rfl, I.hok.fresh (Nat.le_refl _), rfl, fun l hl => by rw [Kd.inj I hl hx]; exact ex, fun l hl => by rw [Kd.inj I hl hy]; exact ey⟩, ⟨z'', ?_, ⟨x1, x2, ?_⟩, ?_, ?_⟩, fun c hcm => ?_⟩
    · exact (sb.2 _ D.a1).trans (hk _ _ D.a1 D.a3 D.a4 D.a5 hTI)
    · exact (sb.2 _ D.a2).trans TO'
    · exact Kd.keep (k := k1) (v1 _ _ s1) fun o q => (sb.2 _ (Ne.symm D.a6)).trans q
    · exact Kd.keep (k := k2) (v2 _ _ s2) fun o q => (sb.2 _ (Ne.symm D.a7)).trans q
    · have hlt : c < s.heap.objs.size := by
        have e' : c = z ∨ c = TI ∨ c = TO ∨ c = i1 ∨ c = i2 := by simpa using hcm
        rcases e' with rfl | rfl | rfl | rfl | rfl
        · exact hzl
        · exact Heap.lt_size hTI
        · exact Heap.lt_size hTO
        · obtain ⟨_, e1, _⟩ := Kd.there (k := k1) h1; exact Heap.lt_size e1
        · obtain ⟨_, e2, _⟩ := Kd.there (k := k2) h2; exact Heap.lt_size e2
      rw [upd_ne (Nat.ne_of_lt hlt)]
      exact (hf c hcm).1
  done := by
    intro X hP hw hK hc i pins s σ H E I hf st hg
    subst hP hw hK
    obtain ⟨hz, hTI, ⟨x0, y0, hTO⟩, h1, h2⟩ := st
    obtain ⟨xs, ys, hx, hy, l1, l2⟩ := hg
    obtain ⟨fp1, P1, S1, D1, m1, f1, u1, v1, w1⟩ := Kd.draws I (I.ok.hd hc) hx i1 (fun q => (D.c1 _ (.inl q)).2.2.1 rfl)
    obtain ⟨fp2, P2, S2, D2, m2, f2, u2, v2, w2⟩ := Kd.draws I (I.ok.hd hc) hy i2 (fun q => (D.c1 _ (.inr q)).2.2.2 rfl)
    rw [← l1] at D1
    rw [← l2] at D2
    exact zs_pyEnd (I.ok.hd hc) (D.sep m1 m2 f1 f2) D1 D2 hz hTI hTO (u1 i h1) (u2 i h2) fun h' tk hk => ⟨rfl, I.turnedL (t' := tk) (ch := [z, TI, TO, i1, i2]) (fun c o hb q =>
      hk c o (fun q' => hb (by simp [q'])) (fun q' => hb (by simp [q'])) (fun q' => hb (by simp [q'])) (fun q' => hb (by simp [q'])) q) hf⟩
  self := fun A i s Q E st h => zs_pyIter st.1 h
/-- zip(a, b, strict=True), the two of one length -/
def itZipS (ms : List (M Opd)) : M (List PyData) := bnd (evs ms) fun os => bnd (takes os) fun ds => match ds with
  | [d1, d2] => match itemsOf d1, itemsOf d2 with
    | some xs, some ys => if xs.length = ys.length then ret ((xs.zip ys).map fun p => .tuple [p.1, p.2]) else stuck
    | _, _ => stuck
  | _ => stuck
def iZs (K : PySem.W.Frag) (ta : TA) : TI := fun σ H R => ta σ H fun vs H1 => ∃ v1 v2 d1 d2 xs ys, vs = [v1, v2] ∧ IsD K H1 v1 d1 ∧ IsD K H1 v2 d2 ∧ itemsOf d1 = some xs ∧ itemsOf d2 = some ys ∧
  ∀ (k1 k2 : Kd) (E : List (V × SV)), (∀ e ∈ E, ∃ o, Ent K H1 e o ∧ o = []) → (∀ H', Stand K E H' → ∃ as bs, k1.has K H' as ∧ k2.has K H' bs ∧ IsAll K H' as xs ∧ IsAll K H' bs ys) → R (Itzs K k1 k2) H1
theorem evalArgs_zs {M : Model} {A : Around} {E : Value → Shared → Prop} {s : Shared} {pos : Pos} {T : String} {args : List (Bool × Sem Value)} {kws : List (Option Str × Sem Value)} {Q : Value → Shared → Prop} (hp : args.any (·.1) = false) (hk : kws.any (·.1.isNone) = false)
    (h : wpAny M A (evalArgs (.type T) true args kws) (fun a s1 => wpAny M A (call (.type T) a.pos a.kw) Q E s1) E s) : wpAny M A (callWith pos (.type T) [] args kws) Q E s := by
  unfold callWith
  refine wpAny_bind (wpAny_holding (wpAny_mono h (fun a s1 h1 => wpAny_bind (wpAny_standAt ?_)) fun _ _ x => x))
  simp only [hp, hk, Bool.or_false]
  exact wpAny_bind (wpAny_pure (wpAny_bind (wpAny_mono h1 (fun r s2 hr => wpAny_bind (wpAny_holding (wpAny_point (wpAny_pure hr)))) fun _ _ x => x)))
theorem evalArgs_he {M : Model} {A : Around} {E : Value → Shared → Prop} {s : Shared} {f : Value} {x : Sem Value} {args rest : List (Bool × Sem Value)} {kws : List (Option Str × Sem Value)} {Q : Args → Shared → Prop} (he : args = (false, x) :: rest) (hall : kws.all (·.1.isSome) = true)
    (h : wpAny M A (spliced args) (fun vs s1 => wpAny M A (evalAll (kws.map (·.2))) (fun kvs s2 => Q ⟨vs, (kws.filterMap (·.1)).zip kvs⟩ s2) E s1) E s) : wpAny M A (evalArgs f true args kws) Q E s := by
  subst he
  exact PyProof.Rows.evalArgs_kwB hall h
section
variable {X : Cx} {W : WX} {as : List Nat} {pos p p2 kpos tpos : Pos}
theorem pi_zs {e e2 : Expr} {ta : TA} {elts : List Expr} {kk k2 : Nat} {x nm : Str} (hx : x = "zip") (hnm : nm = Str.ofString "strict") (hg : Gl X x) (hm : X.mg x = none) (ha : PA X [e, e2] ta) (hp : plainE e = true) (hp2 : plainE e2 = true) :
    PI X (.Tuple elts kk tpos) (.Call (.Name x p) [e, e2] [⟨some nm, .Constant (.bool true) k2 p2, kpos⟩] pos) (iZs X.K ta) := by
  subst hx hnm
  refine ⟨fun pins s σ H R I h => ?_⟩
  have st2 : starEach [e, e2] X.env = (false, eval e X.env) :: starEach [e2] X.env := star_plain hp _ _
  have st1 : starEach [e2] X.env = (false, eval e2 X.env) :: starEach [] X.env := star_plain hp2 _ _
  refine wpAny_Call_Name_kw (ld_blt I hg hm PyProof.Rows.boot_zip (evalArgs_zs (by rw [st2, st1]; rfl) (by rfl) ?_))
  refine evalArgs_he (x := eval e X.env) (rest := backTo pos (starEach [e2] X.env)) (by rw [st2]; rfl) (by rfl) ?_
  refine thn (ha.run pos pins s σ H _ I h) fun us s1 ⟨vs, H1, I1, r1, q1⟩ => ?_
  refine thn ((pk_cons (X := X) (nm := some (Str.ofString "strict")) (kpos := kpos) (pe_bl (b := true) (j := k2) (pos := p2)) pk_nil).run pos pins s1 σ H1 (fun vs H2 => vs = [.bl true] ∧ H2 = H1) I1 ⟨rfl, rfl⟩) fun ks s2 ⟨zs, H2, I2, r2, e1, e2⟩ => ?_
  subst e1 e2
  cases r2 with
  | cons rb rr =>
    cases rr
    cases rb
    obtain ⟨v1, v2, d1, d2, xs, ys, rfl, i1, i2, e1, e2, q⟩ := q1
    cases r1 with
    | cons r rr =>
      cases rr with
      | cons r' rr =>
        cases rr
        obtain ⟨k1, rfl, ⟨as1, hs1⟩, lt1, Hx1, B1, b1, E1, en1, st1⟩ := kd_of I2 r i1 e1
        obtain ⟨k2, rfl, ⟨as2, hs2⟩, lt2, Hx2, B2, b2, E2, en2, st2⟩ := kd_of I2 r' i2 e2
        refine zs_begins (s := s2) B1 B2 b1 b2 fun h' hz hTI hTO h1 h2 hk => zs_pyIter hz ?_
        have I3 : Inv X pins σ H2 { s2 with heap := h' } := I2.kept (t' := s2.toks) hk
        have D : Zap (s2.heap.objs.size + 4) (s2.heap.objs.size + 2) (s2.heap.objs.size + 3) s2.heap.objs.size (s2.heap.objs.size + 1) k1 k2 := by
          refine ⟨?_, ?_, ?_, ?_, ?_, ?_, ?_, ?_, ?_, ?_, fun c hc => ?_⟩
          all_goals first
            | (show (_ : Nat) ≠ _; omega)
            | skip
          have : c < s2.heap.objs.size := by rcases hc with q | q; exact lt1 c q; exact lt2 c q
          refine ⟨?_, ?_, ?_, ?_⟩ <;> exact fun z => by rw [z] at this; exact absurd this (by simp)
        refine ⟨s2.heap.objs.size + 4, [s2.heap.objs.size + 4, s2.heap.objs.size + 2, s2.heap.objs.size + 3, s2.heap.objs.size, s2.heap.objs.size + 1], _, _, H2, rfl, I3, turn_zs D, ⟨hz, hTI, ⟨_, _, hTO⟩, Kd.new h1, Kd.new h2⟩, fun c hcm => ?_, q k1 k2 (E1 ++ E2) (fun e he => ?_) fun H' st => ?_⟩
        · have e' : c = s2.heap.objs.size + 4 ∨ c = s2.heap.objs.size + 2 ∨ c = s2.heap.objs.size + 3 ∨ c = s2.heap.objs.size ∨ c = s2.heap.objs.size + 1 := by simpa using hcm
          have hle : s2.heap.objs.size ≤ c := by
            rcases e' with rfl | rfl | rfl | rfl | rfl
            · exact Nat.le_add_right _ _
            · exact Nat.le_add_right _ _
            · exact Nat.le_add_right _ _
            · exact Nat.le_refl _
            · exact Nat.le_add_right _ _
          exact I2.fpOk hle (I2.hok.fresh hle)
        · rcases List.mem_append.mp he with m | m
          · exact en1 e m
          · exact en2 e m
        · obtain ⟨as, a1, a2⟩ := st1 H' fun e he => st e (List.mem_append_left _ he)
          obtain ⟨bs, b1, b2⟩ := st2 H' fun e he => st e (List.mem_append_right _ he)
          exact ⟨as, bs, a1, b1, a2, b2⟩
theorem si_zipS {e e2 : Expr} {elts : List Expr} {kk k2 : Nat} {x nm : Str} {ms : List (M Opd)} (hx : x = "zip") (hnm : nm = Str.ofString "strict") (hg : Gl X x) (hm : X.mg x = none) (ha : SA X W [e, e2] (evs ms)) (hp : plainE e = true) (hp2 : plainE e2 = true) :
    SI X W (.Tuple elts kk tpos) (.Call (.Name x p) [e, e2] [⟨some nm, .Constant (.bool true) k2 p2, kpos⟩] pos) (itZipS ms) :=
  (pi_zs hx hnm hg hm ha.gh hp hp2).imp fun σ H R h => by
    obtain ⟨H0, O0, T, δ, st, hm⟩ := h
    refine ⟨H0, O0, T, δ, st, ?_⟩
    unfold itZipS bnd at hm
    cases e1 : evs ms δ with
    | bad => simp only [e1] at hm
    | exn y δ1 => simp only [e1] at hm; exact hm
    | ok os δ1 =>
      simp only [e1] at hm
      intro vs H1 ov st1
      cases e2 : takes os δ1 with
      | bad => simp only [e2] at hm
      | exn y δ2 => exact absurd e2 takes_noexn
      | ok ds δ2 =>
        simp only [e2] at hm
        refine takes_gh ov st1 e2 fun H2 _ st2 al => ?_
        match ds, al, hm with
        | [d1, d2], al, hm =>
          cases al with
          | cons i1 al =>
            cases al with
            | cons i2 al =>
              cases al
              cases q1 : itemsOf d1 with
              | none => simp only [q1, stuck] at hm
              | some xs =>
                cases q2 : itemsOf d2 with
                | none => simp only [q1, q2, stuck] at hm
                | some ys =>
                  simp only [q1, q2] at hm
                  by_cases hl : xs.length = ys.length
                  · simp only [if_pos hl, ret] at hm
                    refine ⟨_, _, d1, d2, xs, ys, rfl, i1, i2, q1, q2, fun k1 k2 E en sd => hm _ H2 E (st2.more en) ⟨fun i H x H' => ∃ T x1 y1, x = .ref T ∧ H T = none ∧ H' = upd H T (.tup [x1, y1]) ∧ (∀ as, k1.has X.K H as → as[i]? = some x1) ∧ ∀ bs, k2.has X.K H bs → bs[i]? = some y1, ⟨fun i H hi g => ?_, fun H g => ?_, fun i H x H' hi g y => y⟩, fun i H x H' y g => ?_⟩⟩
                    · obtain ⟨as, bs, a1, b1, a2, b2⟩ := sd H g
                      have : i < xs.length ∧ i < ys.length := by
                        rw [List.length_map, List.length_zip] at hi
                        exact ⟨Nat.lt_of_lt_of_le hi (Nat.min_le_left _ _), Nat.lt_of_lt_of_le hi (Nat.min_le_right _ _)⟩
                      exact ⟨as, bs, a1, b1, by rw [a2.length]; exact this.1, by rw [b2.length]; exact this.2⟩
                    · obtain ⟨as, bs, a1, b1, a2, b2⟩ := sd H g
                      refine ⟨as, bs, a1, b1, ?_, ?_⟩
                      · rw [List.length_map, List.length_zip, ← hl, Nat.min_self, a2.length]
                      · rw [List.length_map, List.length_zip, ← hl, Nat.min_self, b2.length, hl]
                    · obtain ⟨as, bs, a1, b1, a2, b2⟩ := sd H g
                      obtain ⟨T, x1, y1, rfl, hT, rfl, w1, w2⟩ := y
                      obtain ⟨dx, ex, ix⟩ := a2.getV (w1 as a1)
                      obtain ⟨dy, ey, iy⟩ := b2.getV (w2 bs b1)
                      have sy : Stays H (upd H T (.tup [x1, y1])) := (Kp.new (O := []) hT).stays fun b hb => by simp at hb
                      refine ⟨Kp.new hT, .tuple [dx, dy], ?_, .tup (.inl (.inl upd_same)) (.cons (ix.stays sy) (.cons (iy.stays sy) .nil))⟩
                      rw [List.getElem?_map, (List.getElem?_zip_eq_some (z := (dx, dy))).mpr ⟨ex, ey⟩]
                      rfl
                  · simp only [if_neg hl, stuck] at hm
        | [], _, hm => exact hm.elim
        | [_], _, hm => exact hm.elim
        | _ :: _ :: _ :: _, _, hm => exact hm.elim
end
end Ev

/-! D36: dicts: what stands under a key, is a key there, a display, a store. -/
namespace Ev
open PySem PySem.Spec L2
open PyProof.Rows hiding St

def dget? (kvs : List (PyData × PyData)) (k : PyData) : Option PyData := (kvs.find? fun p => decide (keyOf p.1 = keyOf k)).map (·.2)
def gIdxD : PyData → PyData → Option SV
  | .dict kvs, k => if (keyOf k).isSome = true ∧ noX kvs = true then (dget? kvs k).map .dat else none
  | d, k => gIdx d k
def inD? (x : PyData) : PyData → Option Bool
  | .dict kvs => if (keyOf x).isSome = true ∧ noX kvs = true then some (dget? kvs x).isSome else none
  | d => in? x d
def gCmpD : CmpOp → PyData → PyData → Option Bool
  | .In => inD?
  | .NotIn => fun d e => (inD? d e).map (!·)
  | op => gCmp op
/-- operands that are data already -/
def datsO : List Opd → Option (List PyData)
  | [] => some []
  | .val (.dat d) :: os => (datsO os).map (d :: ·)
  | _ => none
def pairUp : List PyData → Option (List (PyData × PyData))
  | [] => some []
  | k :: v :: ds => if (keyOf k).isSome = true then (pairUp ds).map ((k, v) :: ·) else none
  | _ => none
def evP : List (M Opd × M Opd) → M (List Opd)
  | [] => ret []
  | (k, v) :: r => bnd k fun o => bnd v fun o' => bnd (evP r) fun os => ret (o :: o' :: os)
/-- {k: v, ..} of data -/
def eDict (ps : List (M Opd × M Opd)) : M Opd := bnd (evP ps) fun os => match (datsO os).bind pairUp with
  | some kvs => if kvs.length ≤ 15 then ret (.val (.dic (mergeD [] kvs))) else stuck
  | none => stuck
/-- d[k] = v, d a slot -/
def sDicPut (i : Nat) (mk mv : M Opd) : M Flw := bnd mv fun o => bnd (takeD o) fun d => fun δ => match at? δ i with
  | some (.dic _) => bnd mk (fun ok δ' => match at? δ' i, ok with
    | some (.dic kvs), .val (.dat k) => if (keyOf k).isSome = true ∧ kvs.length < sizeLine then .ok .nx (δ'.set i (some (.dic (putD kvs k d)))) else .bad
    | _, _ => .bad) δ
  | _ => .bad
variable [Tb]
theorem dget_val {K : PySem.W.Frag} {H : Hp} {ws : List (Key × V)} {ds : List PyData} (t : IsAll K H (ws.map (·.2)) ds) (k : Key) :
    (∀ d, dget? (kvsD ws ds) (kD k) = some d → ∃ v, valV ws k = some v ∧ IsD K H v d) ∧ (dget? (kvsD ws ds) (kD k)).isSome = (valV ws k).isSome := by
  induction ws generalizing ds with
  | nil => cases t; exact ⟨fun d h => (by cases h), rfl⟩
  | cons w ws ih =>
    cases t with
    | @cons _ _ d0 ds0 a t =>
      obtain ⟨i1, i2⟩ := ih t
      have e : kvsD (w :: ws) (d0 :: ds0) = (kD w.1, d0) :: kvsD ws ds0 := rfl
      rw [e]
      by_cases q : w.1 = k
      · subst q
        have e1 : dget? ((kD w.1, d0) :: kvsD ws ds0) (kD w.1) = some d0 := by unfold dget?; rw [List.find?_cons_of_pos (by simp)]; rfl
        have e2 : valV (w :: ws) w.1 = some w.2 := by unfold valV; rw [List.find?_cons_of_pos (by simp)]; rfl
        rw [e1, e2]
        exact ⟨fun d h => by cases h; exact ⟨_, rfl, a⟩, rfl⟩
      · have e1 : dget? ((kD w.1, d0) :: kvsD ws ds0) (kD k) = dget? (kvsD ws ds0) (kD k) := by unfold dget?; rw [List.find?_cons_of_neg (by simp [keyOf_kD, q])]
        have e2 : valV (w :: ws) k = valV ws k := by unfold valV; rw [List.find?_cons_of_neg (by simp [q])]
        rw [e1, e2]
        exact ⟨i1, i2⟩
theorem opn_dicT {K : PySem.W.Frag} {H : Hp} {v : V} {kvs : List (PyData × PyData)} (h : Opn K H v (.dict kvs)) (hx : noX kvs = true) : ∃ (l : Addr) (ws : List (Key × V)) (ds : List PyData), v = .ref l ∧ Rd H l (.dK ws) ∧ IsAll K H (ws.map (·.2)) ds ∧ kvs = kvsD ws ds := by
  generalize hd : PyData.dict kvs = d at h
  cases h with
  | dat i =>
    subst hd
    obtain ⟨l, o, ws, ds, ev, hf, t, ez⟩ := dic_inv i hx
    exact ⟨l, ws, ds, ev, .inr ⟨o, hf⟩, t, ez⟩
  | lst _ _ => cases hd
  | @dic l ws ds hf t =>
    cases hd
    exact ⟨l, ws, ds, rfl, .inl hf, t, rfl⟩
theorem opn_key {K : PySem.W.Frag} {H : Hp} {v : V} {d : PyData} {k : Key} (e : keyOf d = some k) (h : Opn K H v d) : v = kV k ∧ d = kD k := by
  have e' := kD_keyOf e
  subst e'
  cases k with
  | inl i => exact ⟨h.int, rfl⟩
  | inr z => exact ⟨h.str, rfl⟩
section
variable {X : Cx} {W : WX} {as : List Nat} {pos p p2 p3 : Pos}
theorem ixnD (hu : X.A.units + 65 < cLine) : IxR X fun x y H Q => rN X.K (g2 gIdxD) [x, y] H Q := by
  intro value slice pins s σ H x y v u Q I rx ry h hs
  obtain ⟨ds, sv, po, e, q⟩ := h
  have po' := po
  obtain ⟨d, e', rfl, a, b⟩ := two_opn po
  cases d with
  | dict kvs =>
    have e : (if (keyOf e').isSome = true ∧ noX kvs = true then (dget? kvs e').map SV.dat else none) = some sv := e
    by_cases c : (keyOf e').isSome = true ∧ noX kvs = true
    · rw [if_pos c] at e
      obtain ⟨k, ek⟩ := Option.isSome_iff_exists.mp c.1
      obtain ⟨rfl, rfl⟩ := opn_key ek b
      obtain ⟨l, ws, es, rfl, hl, t, rfl⟩ := opn_dicT a c.2
      obtain ⟨dv, e1, rfl⟩ := Option.map_eq_some_iff.mp e
      obtain ⟨w, e2, iw⟩ := (dget_val t k).1 dv e1
      have g : DGet H l (kV k) (some w) := .inl ⟨ws, k, hl, rfl, e2.symm⟩
      obtain rfl : v = Value.ref l := rx
      exact tail_any (ops := [.ref l, u]) (dict_typeIs I g) PySem.F.slot_dict_getitem.lookup (d_getItem (by omega) I g ry fun w' s3 I3 rw' => ⟨w, H, I3, rw', q _ _ (Res.same iw)⟩) hs
    · rw [if_neg c] at e; cases e
  | none => exact ixn value slice pins s σ H x y v u Q I rx ry ⟨_, sv, po', e, q⟩ hs
  | bool _ => exact ixn value slice pins s σ H x y v u Q I rx ry ⟨_, sv, po', e, q⟩ hs
  | int _ => exact ixn value slice pins s σ H x y v u Q I rx ry ⟨_, sv, po', e, q⟩ hs
  | str _ => exact ixn value slice pins s σ H x y v u Q I rx ry ⟨_, sv, po', e, q⟩ hs
  | list _ => exact ixn value slice pins s σ H x y v u Q I rx ry ⟨_, sv, po', e, q⟩ hs
  | tuple _ => exact ixn value slice pins s σ H x y v u Q I rx ry ⟨_, sv, po', e, q⟩ hs
theorem se_idxD {a b : Expr} {ma mb : M Opd} (hu : X.A.units + 65 < cLine) (hs : (match b with | .Slice _ _ _ _ => false | _ => true) = true) (ha : SE X W a ma) (hb : SE X W b mb) : SE X W (.Subscript a b pos) (eOp (g2 gIdxD) [ma, mb]) :=
  (pe_ix (ixnD hu) ha hb (by intro o i; cases b <;> first | rfl | cases hs)).imp fun _ _ _ h => two_t h
theorem opn_inD (hu : X.A.units + 65 < cLine) : OpN X (compareOp .In) (gB2 inD?) := by
  intro pins s σ H x y v u Q I rx ry h
  obtain ⟨ds, sv, po, e, q⟩ := h
  have po' := po
  obtain ⟨d, e', rfl, a, b⟩ := two_opn po
  cases e' with
  | dict kvs =>
    have e : (if (keyOf d).isSome = true ∧ noX kvs = true then some (dget? kvs d).isSome else none).map (fun b => SV.dat (.bool b)) = some sv := e
    by_cases c : (keyOf d).isSome = true ∧ noX kvs = true
    · rw [if_pos c] at e
      cases e
      obtain ⟨k, ek⟩ := Option.isSome_iff_exists.mp c.1
      obtain ⟨rfl, rfl⟩ := opn_key ek a
      obtain ⟨l, ws, es, rfl, hl, t, rfl⟩ := opn_dicT b c.2
      have g : DGet H l (kV k) (valV ws k) := .inl ⟨ws, k, hl, rfl, rfl⟩
      obtain rfl : u = Value.ref l := ry
      exact d_in (by omega) I g rx fun s' I' => ⟨.bl (valV ws k).isSome, H, I', rfl, by rw [← (dget_val t k).2]; exact q _ _ (Res.same (.bl _))⟩
    · rw [if_neg c] at e; cases e
  | none => exact opn_in hu pins s σ H x y v u Q I rx ry ⟨_, sv, po', e, q⟩
  | bool _ => exact opn_in hu pins s σ H x y v u Q I rx ry ⟨_, sv, po', e, q⟩
  | int _ => exact opn_in hu pins s σ H x y v u Q I rx ry ⟨_, sv, po', e, q⟩
  | str _ => exact opn_in hu pins s σ H x y v u Q I rx ry ⟨_, sv, po', e, q⟩
  | list _ => exact opn_in hu pins s σ H x y v u Q I rx ry ⟨_, sv, po', e, q⟩
  | tuple _ => exact opn_in hu pins s σ H x y v u Q I rx ry ⟨_, sv, po', e, q⟩
theorem opn_notInD (hu : X.A.units + 65 < cLine) : OpN X (compareOp .NotIn) (gB2 fun d e => (inD? d e).map (!·)) := by
  intro pins s σ H x y v u Q I rx ry h
  obtain ⟨ds, sv, po, e, q⟩ := h
  have po' := po
  obtain ⟨d, e', rfl, a, b⟩ := two_opn po
  cases e' with
  | dict kvs =>
    have e : ((if (keyOf d).isSome = true ∧ noX kvs = true then some (dget? kvs d).isSome else none).map (!·)).map (fun b => SV.dat (.bool b)) = some sv := e
    by_cases c : (keyOf d).isSome = true ∧ noX kvs = true
    · rw [if_pos c] at e
      cases e
      obtain ⟨k, ek⟩ := Option.isSome_iff_exists.mp c.1
      obtain ⟨rfl, rfl⟩ := opn_key ek a
      obtain ⟨l, ws, es, rfl, hl, t, rfl⟩ := opn_dicT b c.2
      have g : DGet H l (kV k) (valV ws k) := .inl ⟨ws, k, hl, rfl, rfl⟩
      obtain rfl : u = Value.ref l := ry
      exact d_notIn (by omega) I g rx fun s' I' => ⟨.bl (!(valV ws k).isSome), H, I', rfl, by rw [← (dget_val t k).2]; exact q _ _ (Res.same (.bl _))⟩
    · rw [if_neg c] at e; cases e
  | none => exact opn_notIn hu pins s σ H x y v u Q I rx ry ⟨_, sv, po', e, q⟩
  | bool _ => exact opn_notIn hu pins s σ H x y v u Q I rx ry ⟨_, sv, po', e, q⟩
  | int _ => exact opn_notIn hu pins s σ H x y v u Q I rx ry ⟨_, sv, po', e, q⟩
  | str _ => exact opn_notIn hu pins s σ H x y v u Q I rx ry ⟨_, sv, po', e, q⟩
  | list _ => exact opn_notIn hu pins s σ H x y v u Q I rx ry ⟨_, sv, po', e, q⟩
  | tuple _ => exact opn_notIn hu pins s σ H x y v u Q I rx ry ⟨_, sv, po', e, q⟩
theorem opn_cmpD (hu : X.A.units + 65 < cLine) : ∀ op : CmpOp, OpN X (compareOp op) (gB2 (gCmpD op))
  | .In => opn_inD hu
  | .NotIn => opn_notInD hu
  | .Eq => opn_cmp hu .Eq
  | .NotEq => opn_cmp hu .NotEq
  | .Lt => opn_cmp hu .Lt
  | .LtE => opn_cmp hu .LtE
  | .Gt => opn_cmp hu .Gt
  | .GtE => opn_cmp hu .GtE
  | .Is => opn_cmp hu .Is
  | .IsNot => opn_cmp hu .IsNot
theorem se_cmpD (hu : X.A.units + 65 < cLine) {op : CmpOp} {a b : Expr} {ma mb : M Opd} (hs : (match b with | .Set _ _ _ => false | _ => true) = true) (ha : SE X W a ma) (hb : SE X W b mb) : SE X W (.Compare a [op] [b] pos) (eOp (gB2 (gCmpD op)) [ma, mb]) :=
  (pe_cmpR (opn_cmpD hu op) ha hb (not_set hs)).imp fun _ _ _ h => two_t h
theorem st_cmpD (hu : X.A.units + 65 < cLine) {op : CmpOp} {a b : Expr} {ma mb : M Opd} (hs : (match b with | .Set _ _ _ => false | _ => true) = true) (ha : SE X W a ma) (hb : SE X W b mb) : ST X W (.Compare a [op] [b] pos) (tOf (eOp (gB2 (gCmpD op)) [ma, mb])) :=
  (pt_cmpR (opn_cmpD hu op) ha hb (not_set hs)).imp fun _ _ _ h => two_t (boolT (boolM_bnd fun _ => boolM_opN) h)
/-! ### a store -/
theorem ss_dicPut {i : Nat} {x : Str} {ek e : Expr} {mk mv : M Opd} (hu : X.A.units + 65 < cLine) (hN : X.N[i]? = some x) (hv : Vis X.env.scope x) (hd : (x == ("__debug__" : Str)) = false) (hcd : (x == ("__classdict__" : Str)) = false) (hk : SE X W ek mk) (he : SE X W e mv)
    (hs : swapsWith e (some (.Subscript (.Name x p) ek p3)) pos.line X.env = pure false) : SS X W as (.Assign [.Subscript (.Name x p) ek p3] e pos) (sDicPut i mk mv) :=
  (ps_dput (by omega) (pe_var hN hv hd hcd) hk he.gh hs).imp fun D σ H h => by
    obtain ⟨σ0, H0, O0, T, δ, ap, st, hm⟩ := h
    refine ⟨H0, O0, T, δ, st, ?_⟩
    unfold sDicPut bnd at hm
    cases e1 : mv δ with
    | bad => simp only [e1] at hm; exact hm
    | exn y δ1 => simp only [e1] at hm; exact fun cls d H' a b => hm cls d σ H' ap a b
    | ok o δ1 =>
      simp only [e1] at hm
      intro v H1 ov st1
      cases e2 : takeD o δ1 with
      | bad => simp only [e2] at hm; exact hm.elim
      | exn y δ2 => exact absurd e2 takeD_noexn
      | ok d δ2 =>
        simp only [e2] at hm
        refine takeD_gh ov st1 e2 fun H2 _ st2 iv => ?_
        cases e3 : at? δ2 i with
        | none => simp only [e3] at hm; exact hm.elim
        | some sv =>
          simp only [e3] at hm
          cases sv with
          | dic kv0 =>
            simp only at hm
            obtain ⟨w, ew, o2, en⟩ := st2.slot e3
            refine ⟨w, ew, ?_⟩
            have st2' : Ste X.K H0 O0 σ H2 δ2 ((v, .dat d) :: T) := st2.res (Res.same iv)
            refine ⟨H0, O0, _, δ2, st2', ?_⟩
            cases e4 : mk δ2 with
            | bad => simp only [e4] at hm; exact hm.elim
            | exn y δ3 => simp only [e4] at hm; exact fun cls d H' a b => hm cls d σ H' ap a b.drop1
            | ok ok δ3 =>
              simp only [e4] at hm
              intro y H3 oy st3
              cases e5 : at? δ3 i with
              | none => simp only [e5] at hm; exact hm.elim
              | some sv2 =>
                simp only [e5] at hm
                cases sv2 with
                | dic kvs =>
                  cases ok with
                  | slot j => exact hm.elim
                  | val s =>
                    cases s with
                    | dat k =>
                      simp only at hm
                      by_cases c : (keyOf k).isSome = true ∧ kvs.length < sizeLine
                      · rw [if_pos c] at hm
                        obtain ⟨kk, ek⟩ := Option.isSome_iff_exists.mp c.1
                        obtain ⟨oo, ey⟩ := st3.ent (e := (y, SV.dat k)) (by simp [tmp])
                        have opy : Opn X.K H3 y k := ey.opn rfl
                        obtain ⟨rfl, rfl⟩ := opn_key ek opy
                        obtain ⟨oo2, ev⟩ := st3.ent (e := (v, SV.dat d)) (by simp [tmp])
                        have iv3 : IsD X.K H3 v d := by cases ev with | dat i => exact i
                        obtain ⟨w', ew', o3, en3⟩ := st3.slot e5
                        have q : w' = w := by rw [ew] at ew'; cases ew'; rfl
                        subst q
                        generalize hz : SV.dic kvs = z at en3
                        cases en3 with
                        | @dic l ws ds hl t =>
                          have ez : kvs = kvsD ws ds := by cases hz; rfl
                          subst ez
                          obtain ⟨ds', t', e'⟩ := putD_put (k := kk) t iv3
                          have lw : ws.length < sizeLine := by
                            have h2 := c.2
                            have l2 := t.length
                            unfold kvsD at h2
                            rw [List.length_map] at l2
                            rw [List.length_zip, List.length_map, ← l2, Nat.min_self] at h2
                            exact h2
                          refine ⟨l, _, rfl, .inl ⟨ws, kk, hl, rfl, lw, rfl⟩, ?_⟩
                          refine hm σ _ ap (Ste.drop (T' := tmp (kV kk) (.val (.dat (kD kk))) ++ [(v, SV.dat d)]) ?_)
                          have st4 : Ste X.K H0 O0 σ (upd H3 l (.dK (putK ws kk v))) (δ3.set i (some (.dic (putD (kvsD ws ds) (kD kk) d)))) (tmp (kV kk) (.val (.dat (kD kk))) ++ ((v, .dat d) :: T)) := by
                            refine st3.swapSlot e5 ew fun oc en nd => ?_
                            have eo := en.dic_own
                            subst eo
                            have sy : Stays H3 (upd H3 l (.dK (putK ws kk v))) := (Kp.at (O := [l]) (by simp)).stays fun b hb => by simp at hb; subst hb; exact ⟨_, hl, by simp, by simp, by simp, fixed_dK⟩
                            rw [e']
                            exact ⟨[l], Ent.dic upd_same (t'.stays sy), by simp, fun a ha => .inl ha, Kp.at (by simp)⟩
                          simpa using st4
                        | _ => cases hz
                      · rw [if_neg c] at hm; exact hm.elim
                    | _ => exact hm.elim
                | _ => exact hm.elim
          | _ => exact hm.elim
end
end Ev

/-! D37: dict displays, enumerate over a list. -/
namespace Ev
open PySem PySem.Spec L2
open PyProof.Rows hiding St

def enumD (ds : List PyData) : List PyData := ds.zipIdx.map fun p => .tuple [.int (p.2 : Nat), p.1]
/-- enumerate(xs) -/
def itEnum (m : M Opd) : M (List PyData) := bnd m fun o => bnd (takeD o) fun d => match d with
  | .list ds => ret (enumD ds)
  | _ => stuck
def pairV : List V → List (V × V)
  | x :: y :: r => (x, y) :: pairV r
  | _ => []
variable [Tb]
section
variable {X : Cx} {W : WX} {as : List Nat} {pos p tpos : Pos}
theorem si_enum {e : Expr} {elts : List Expr} {kk : Nat} {x : Str} {m : M Opd} (hx : x = "enumerate") (hg : Gl X x) (hm : X.mg x = none) (he : SE X W e m) (hp : plainE e = true) : SI X W (.Tuple elts kk tpos) (.Call (.Name x p) [e] [] pos) (itEnum m) := by
  subst hx
  refine (pi_enum hg hm (pa_cons he.gh pa_nil (star_plain hp _ _)) (star_plain hp _ _)).imp fun σ H R h => ?_
  obtain ⟨H0, O0, T, δ, st, hm⟩ := h
  show tE X.K W m σ H fun v H1 => Gh (fun H2 => ∃ a xs, [v] = [V.ref a] ∧ SqL X.K H2 a xs ∧ R (Ite X.K a) H2) H1
  refine ⟨H0, O0, T, δ, st, ?_⟩
  unfold itEnum bnd at hm
  cases e1 : m δ with
  | bad => simp only [e1] at hm
  | exn y δ1 => simp only [e1] at hm; exact hm
  | ok o δ1 =>
    simp only [e1] at hm
    intro v H1 ov st1
    cases e2 : takeD o δ1 with
    | bad => simp only [e2] at hm
    | exn y δ2 => exact absurd e2 takeD_noexn
    | ok d δ2 =>
      simp only [e2] at hm
      refine takeD_gh ov st1 e2 fun H2 _ st2 iv => ?_
      cases d with
      | list ds =>
        simp only [ret] at hm
        generalize hz : PyData.list ds = z at iv
        cases iv with
        | @lst a xs _ hf t =>
          cases hz
          have sq : ∀ {H : Hp} {vs : List V}, FrL H a vs → SqL X.K H a vs := fun ⟨o, h⟩ => .inl (.inr ⟨o, h⟩)
          have len : (enumD ds).length = ds.length := by unfold enumD; simp
          refine ⟨a, xs, rfl, sq hf, hm _ H2 [(.ref a, .dat (.list ds))] (st2.res (Res.same (.lst hf t))) ⟨fun i H x H' => ∃ T x1, x = .ref T ∧ H T = none ∧ H' = upd H T (.tup [.int (i : Nat), x1]) ∧ ∀ as, SqL X.K H a as → as[i]? = some x1, ⟨fun i H hi g => ?_, fun H g => ?_, fun i H x H' hi g y => y⟩, fun i H x H' y g => ?_⟩⟩
          · obtain ⟨vs, h, t'⟩ := frl_list (stand_dat g List.mem_cons_self)
            have hi' : i < vs.length := by rw [t'.length, ← len]; exact hi
            exact ⟨vs, vs[i], sq h, List.getElem?_eq_getElem hi'⟩
          · obtain ⟨vs, h, t'⟩ := frl_list (stand_dat g List.mem_cons_self)
            exact ⟨vs, sq h, by rw [t'.length, len]; exact Nat.le_refl _⟩
          · obtain ⟨vs, h, t'⟩ := frl_list (stand_dat g List.mem_cons_self)
            obtain ⟨T, x1, rfl, hT, rfl, w⟩ := y
            obtain ⟨dx, ex, ix⟩ := t'.getV (w vs (sq h))
            have sy : Stays H (upd H T (.tup [.int (i : Nat), x1])) := (Kp.new (O := []) hT).stays fun b hb => by simp at hb
            refine ⟨Kp.new hT, .tuple [.int (i : Nat), dx], ?_, .tup (.inl (.inl upd_same)) (.cons (.int _) (.cons (ix.stays sy) .nil))⟩
            unfold enumD
            rw [List.getElem?_map, List.getElem?_zipIdx, ex]
            simp
        | _ => cases hz
      | _ => exact hm.elim
end
/-! ### displays -/
section
variable {K : PySem.W.Frag} {H0 : Hp} {O0 : List Addr} {W : WX}
theorem evP_t : ∀ {ms : List (M Opd × M Opd)} {σ : St} {H : Hp} {T : List (V × SV)} {δ : DS} {Q : List (V × V) → Hp → Prop}, Ste K H0 O0 σ H δ T → (match evP ms δ with
    | .ok os δ' => ∀ vs H', OpdVs σ vs os → Ste K H0 O0 σ H' δ' (tmps vs os ++ T) → Q (pairV vs) H'
    | .exn x δ' => ∀ cls d H', ExnOk K H' x cls d → Ste K H0 O0 σ H' δ' T → W cls d σ H'
    | .bad => False) → tPairs (ms.map fun m => (tE K W m.1, tE K W m.2)) σ H Q
  | [], σ, H, T, δ, Q, st, h => h [] H .nil st
  | (k, v) :: ms, σ, H, T, δ, Q, st, h => by
    unfold evP bnd at h
    show tE K W k σ H fun x H1 => tE K W v σ H1 fun y H2 => tPairs (ms.map fun m => (tE K W m.1, tE K W m.2)) σ H2 fun ps H3 => Q ((x, y) :: ps) H3
    refine ⟨H0, O0, T, δ, st, ?_⟩
    cases e1 : k δ with
    | bad => simp only [e1] at h
    | exn x δ1 => simp only [e1] at h; exact h
    | ok o δ1 =>
      simp only [e1] at h
      intro x H1 ov st1
      refine ⟨H0, O0, tmp x o ++ T, δ1, st1, ?_⟩
      cases e2 : v δ1 with
      | bad => simp only [e2] at h
      | exn y δ2 => simp only [e2] at h; exact fun cls d H' a b => h cls d H' a b.drop
      | ok o' δ2 =>
        simp only [e2] at h
        intro y H2 ov2 st2
        refine evP_t (T := tmp y o' ++ (tmp x o ++ T)) st2 ?_
        cases e3 : evP ms δ2 with
        | bad => simp only [e3] at h
        | exn z δ3 => simp only [e3] at h; exact fun cls d H' a b => h cls d H' a b.drop.drop
        | ok os δ3 =>
          simp only [e3, ret] at h
          intro vs H3 ovs st3
          exact h (x :: y :: vs) H3 (.cons ov (.cons ov2 ovs)) (by simpa [tmps] using st3)
theorem pairs_of {σ : St} {H : Hp} {δ : DS} : ∀ {os : List Opd} {vs : List V} {ds : List PyData} {kvs : List (PyData × PyData)} {T : List (V × SV)}, OpdVs σ vs os → Ste K H0 O0 σ H δ (tmps vs os ++ T) → datsO os = some ds → pairUp ds = some kvs →
    ∃ (ws : List (Key × V)) (es : List PyData), pairV vs = ws.map (fun kv => (kV kv.1, kv.2)) ∧ IsAll K H (ws.map (·.2)) es ∧ kvs = kvsD ws es
  | [], _, ds, kvs, T, .nil, st, h1, h2 => by cases h1; cases h2; exact ⟨[], [], rfl, .nil, rfl⟩
  | [o], _, ds, kvs, T, .cons _ .nil, st, h1, h2 => by
    cases o with
    | slot i => cases h1
    | val s =>
      cases s with
      | dat d => cases h1; cases h2
      | _ => cases h1
  | o :: o' :: os, x :: y :: vs, ds, kvs, T, .cons a (.cons b ov), st, h1, h2 => by
    cases o with
    | slot i => cases h1
    | val s =>
      cases s with
      | dat k =>
        cases o' with
        | slot i => cases h1
        | val s' =>
          cases s' with
          | dat d =>
            have h1 : ((datsO os).map (d :: ·)).map (k :: ·) = some ds := h1
            cases e : datsO os with
            | none => rw [e] at h1; cases h1
            | some ds' =>
              rw [e] at h1
              cases h1
              have h2 : (if (keyOf k).isSome = true then (pairUp ds').map ((k, d) :: ·) else none) = some kvs := h2
              by_cases c : (keyOf k).isSome = true
              · rw [if_pos c] at h2
                obtain ⟨kvs', e2, rfl⟩ := Option.map_eq_some_iff.mp h2
                obtain ⟨kk, ek⟩ := Option.isSome_iff_exists.mp c
                have st' : Ste K H0 O0 σ H δ (tmps vs os ++ ((y, SV.dat d) :: (x, SV.dat k) :: T)) := by simpa [tmps, tmp] using st
                obtain ⟨ws, es, q1, q2, q3⟩ := pairs_of ov st' e e2
                obtain ⟨o1, n1⟩ := st'.ent (e := (x, SV.dat k)) (by simp)
                obtain ⟨o2, n2⟩ := st'.ent (e := (y, SV.dat d)) (by simp)
                have ix : Opn K H x k := n1.opn rfl
                have iy : IsD K H y d := by cases n2 with | dat i => exact i
                obtain ⟨rfl, rfl⟩ := opn_key ek ix
                refine ⟨(kk, y) :: ws, d :: es, ?_, .cons iy q2, by rw [q3]; rfl⟩
                show (kV kk, y) :: pairV vs = _
                rw [q1]; rfl
              · rw [if_neg c] at h2; cases h2
          | _ => cases h1
      | _ => cases h1
end
section
variable {X : Cx} {W : WX} {pos : Pos}
abbrev SPs (X : Cx) (W : WX) (pos : Pos) (ks : List (Option Expr)) (vs : List Expr) (ms : List (M Opd × M Opd)) : Prop := PPs X pos ks vs (ms.map fun m => (tE X.K W m.1, tE X.K W m.2))
theorem sps_nil : SPs X W pos [] [] [] := pps_nil
theorem sps_cons {k v : Expr} {ks : List (Option Expr)} {vs : List Expr} {mk mv : M Opd} {ms : List (M Opd × M Opd)} (hk : SE X W k mk) (hv : SE X W v mv) (h : SPs X W pos ks vs ms) : SPs X W pos (some k :: ks) (v :: vs) ((mk, mv) :: ms) := pps_cons hk hv h
theorem se_dict {ks : List (Option Expr)} {vs : List Expr} {ms : List (M Opd × M Opd)} (h : SPs X W pos ks vs ms) (hall : ks.all (·.isSome) = true) (hl : ks.length = vs.length) (h0 : ks ≠ []) (h15 : ks.length ≤ 15) : SE X W (.Dict ks vs pos) (eDict ms) :=
  (pe_disp h hall hl h0 h15).imp fun σ H Q h => by
    obtain ⟨H0, O0, T, δ, st, hm⟩ := h
    intro p hp
    have r0 : Res X.K H (.ref p) (.dic []) (upd H p (.dK [])) := ⟨Kp.new hp, [p], Ent.dic (kvs := []) (ds := []) upd_same .nil, by simp, fun a ha => by simp at ha; subst ha; exact hp⟩
    have st0 := st.res r0
    refine evP_t st0 ?_
    unfold eDict bnd at hm
    cases e1 : evP ms δ with
    | bad => simp only [e1] at hm
    | exn x δ1 => simp only [e1] at hm; exact fun cls d H' a b => hm cls d H' a b.drop1
    | ok os δ1 =>
      simp only [e1] at hm
      intro vs H1 ov st1
      cases e2 : (datsO os).bind pairUp with
      | none => simp only [e2, stuck] at hm
      | some kvs =>
        simp only [e2] at hm
        obtain ⟨ds, e3, e4⟩ := Option.bind_eq_some_iff.mp e2
        obtain ⟨ws, es, q1, q2, rfl⟩ := pairs_of ov st1 e3 e4
        by_cases c : (kvsD ws es).length ≤ 15
        · simp only [if_pos c, ret] at hm
          have lw : ws.length ≤ 15 := by
            have l2 := q2.length
            rw [List.length_map] at l2
            unfold kvsD at c
            rw [List.length_zip, List.length_map, ← l2, Nat.min_self] at c
            exact c
          have st2 : Ste X.K H0 O0 σ H1 δ1 ([(V.ref p, SV.dic [])] ++ T) := Ste.drop (T' := tmps vs os) (by simpa using st1)
          obtain ⟨o2, en2⟩ := st2.ent (e := (V.ref p, SV.dic [])) (by simp)
          have hpp : H1 p = some (.dK []) := by
            generalize hz : ([] : List (PyData × PyData)) = z at en2
            generalize hv : V.ref p = pv at en2
            cases en2 with
            | @dic a kvs ds2 h3 t3 =>
              cases hv
              have l := t3.length
              cases kvs with
              | nil => exact h3
              | cons kv kvs =>
                cases ds2 with
                | nil => simp at l
                | cons d2 ds2 => cases hz
          refine ⟨hpp, ws, q1, lw, ?_⟩
          obtain ⟨ds', t', e'⟩ := mergeD_merge (ws := []) (ds := []) .nil q2
          refine hm _ _ True.intro ?_
          refine Ste.step (Tc := [(V.ref p, SV.dic [])]) (Tn := [(V.ref p, SV.dic (mergeD [] (kvsD ws es)))]) st2 fun oc hoc nd => ?_
          cases hoc with
          | cons c1 r1 =>
            cases r1
            have q := c1.dic_own
            subst q
            have sy : Stays H1 (upd H1 p (.dK (mergeK [] ws))) := (Kp.at (O := [p]) (by simp)).stays fun b hb => by simp at hb; subst hb; exact ⟨_, hpp, by simp, by simp, by simp, fixed_dK⟩
            have e3 : mergeD [] (kvsD ws es) = kvsD (mergeK [] ws) ds' := e'
            rw [e3]
            exact ⟨[p] ++ [], Ents.cons (Ent.dic upd_same (t'.stays sy)) .nil, by simp, fun a ha => .inl (by simpa using ha), Kp.at (by simp)⟩
        · simp only [if_neg c, stuck] at hm
end
end Ev

/-! D38: a def that hands out a lambda; what it hands out, handed on. -/
namespace Ev
open PySem PySem.Spec L2
open PyProof.Rows hiding St
open NdefX LamX
variable [Tb]

/-- a def of one parameter that makes a lambda over it -/
structure MakF (P : Program) (w : World) (K : PySem.W.Frag) (mg : Str → Option Value) (base : Heap) (kc k : Nat) (y : Str) (nn : Nat) (gg : List PyData → GN) : Prop where
  ex : ∃ (f : Addr) (fd : FuncData) (p : Str), mg y = some (.ref f) ∧ PySem.W.keepIn K (.ref f) = true ∧ Binds K fd [p] [] ∧
    ∀ (A : Around) (outer : List Env) (s : Shared) (H : Hp) (args : Args) (u : Value) (v : V) (R : Result → Shared → Prop), A.guards = some [] → Room k A → Env0 P w K mg base A outer s H → BindsTo s fd args [(p, u)] → RelV v u → TabsN Tb.tt H →
      (∀ (f' : Addr) (F' : CF) (fr : List Str) (H1 : Hp) (s' : Shared), s'.os = s.os → AllBare s'.gens → Un (frs outer) [] H H1 s.heap s'.heap → HOk P w H1 s'.heap → ExtN H H1 → TabsN Tb.tt H1 → H1 f' = some (CfO f' F') → H1 F'.c = some (CodeO F'.c F'.qual) →
        CellsAt F'.cl fr [some v] s'.heap H1 → (∀ z c, F'.cl.lookup z = some c → s.heap.objs.size ≤ c) → CfOk P w K mg base kc f' F' nn fr gg → R (.ok (.ret (.ref f'))) s') → codeAny (model P w) A (.call (.ref f) args) R s
  ln : ∀ cs ds d, gg cs ds = some d → ds.length = nn
section
variable {P : Program} {w : World} {K : PySem.W.Frag} {mg : Str → Option Value} {base : Heap}
theorem mak_fn {y qual p : Str} {params lparams : Arguments} {lbody : Expr} {lscope scope : Scope} {lpos rpos : Pos} {f : Addr} {fd : FuncData} {kc nn : Nat} {N : List Str} {gg : List PyData → GN} {nm : Nat → Nat → Str} (F : FunD K y qual params [.Return (some (.Lambda lparams lbody lscope lpos)) rpos] scope [] [] f fd) (S : FnScope N [p] scope)
    (hmg : mg y = some (.ref f)) (hb : Binds K fd [p] []) (tb : TbF K mg base f nm) (hnm : nm lpos.line lpos.col = qual ++ ".<locals>." ++ "<lambda>") (hdef : ∀ env, defaultsOf lparams env = ([], [])) (fr : List Str) (hfr1 : fr = [p]) (hN0 : N[0]? = some p)
    (hfree : ∀ z ∈ lscope.names, z.2 = .free → scope.names.lookup z.1 = some .cell ∨ scope.names.lookup z.1 = some .free)
    (hcl : ∀ (cdv : Value) (A : Around) (outer : List Env) (s : Shared) (H : Hp) (E : XK), ClS (Bx P w K mg base N qual scope f cdv A outer s H E) kc (lamF (Bx P w K mg base N qual scope f cdv A outer s H E) lparams lbody lscope) nn fr [0] gg) (hln : ∀ cs ds d, gg cs ds = some d → ds.length = nn) :
    MakF P w K mg base kc 1 y nn gg := by
  refine ⟨⟨f, fd, p, hmg, F.kp, hb, fun A outer s H args u v R hG hr e0 hbd r hT h => ?_⟩, hln⟩
  obtain ⟨oc, od, dV, kV, doc, pm, an, cdv, ct, osl, rfl, lk, hcd, _, _⟩ := F.ex
  have KX : K.In s.heap := e0.mod.kin.keeps fun b o e => (e0.bs b o e).1
  have kd : ∀ z ∈ ([p] : List Str).zip [u], scope.names.lookup z.1 = some .local ∨ (scope.names.lookup z.1 = some .cell ∧ ((cellsFrom (s.heap.objs.size + 1) scope.names []).lookup z.1).isSome = true) := by
    rintro ⟨n, v⟩ hy
    exact (S.par n (List.of_mem_zip hy).1).imp id fun q => ⟨q, PySem.W.cellsFrom_some _ _ _ (.inl q)⟩
  refine codeAny_call_function hr.depth (KX _ _ lk) rfl S.co S.gen rfl (PySem.W.codeRec_of KX hcd) (hbd _ _ _ _ (wpAny_newFunctionEnv_cells S.kind kd fun env he s1 x => ?_))
  subst he
  refine ⟨(e0.mod.nolimit.keeps fun b o e => (e0.bs b o e).1).keeps x.toInCall.keep, codeAny_func ?_⟩
  have I0 : Inv (Bx P w K mg base N qual scope f cdv A outer s H (fun _ _ _ => False)) [] (L2.start N [v]) H s1 := inv_start S hr.hd e0 rfl (.cons r .nil) x
  have C := hcl cdv A outer s H (fun _ _ _ => False)
  have tx : TbX (Bx P w K mg base N qual scope f cdv A outer s H (fun _ _ _ => False)) nm := tbX_of tb ⟨_, _, _, _, lk, rfl⟩
  refine wpAny_execs_cons (wpAny_Return_some ?_)
  refine mk_lam I0 tx hnm hT (hdef _) (fun z hz e => (hfree z hz e).elim (fun q => I0.ok.has _ (.inl q)) fun q => I0.ok.has _ (.inr q)) fun f' c' H1 s' I1 eN T1 f1 c1 => ?_
  have hs : [0].map (slotAt (L2.start N [v])) = [some v] := by
    have : slotAt (L2.start N [v]) 0 = some v := slotAt_of (by unfold L2.start; rfl)
    simp [this]
  have CA := cells_of I1 (C.cp I1.ok c')
  rw [hs] at CA
  refine h f' _ fr H1 s' I1.os I1.bare I1.base I1.hok eN T1 f1 c1 CA (fun z c q => I1.ok.cab z c rfl ((C.cp I1.ok c').sub z c q)) (C.ok f' c')
end
/-- a row of operands -/
inductive Rw (X : Cx) (W : WX) : List Expr → M (List Opd) → Prop
  | nil : Rw X W [] (ret [])
  | cons {e : Expr} {es : List Expr} {m : M Opd} {ms : M (List Opd)} : plainE e = true → SE X W e m → Rw X W es ms → Rw X W (e :: es) (bnd m fun o => bnd ms fun os => ret (o :: os))
theorem rw_run {X : Cx} {W : WX} {es : List Expr} {m : M (List Opd)} (h : Rw X W es m) : ∀ (rest : List Expr) (pos : Pos) (pins : List (Addr × Obj)) (s : Shared) (σ : St) (H H0 : Hp) (O0 : List Addr) (T : List (V × SV)) (δ : DS) (Q : List Value → Shared → Prop), Inv X pins σ H s → Ste X.K H0 O0 σ H δ T →
    (match m δ with
    | .ok os δ' => ∀ vs us H' s', Inv X pins σ H' s' → Vals vs us → OpdVs σ vs os → Ste X.K H0 O0 σ H' δ' (tmps vs os ++ T) → wpAny (model X.prog X.w) X.A (spliced (backTo pos (starEach rest X.env))) (fun us2 s2 => Q (us ++ us2) s2) X.xe s'
    | .exn x δ' => ∀ cls d H', ExnOk X.K H' x cls d → Ste X.K H0 O0 σ H' δ' T → W cls d σ H'
    | .bad => False) → wpAny (model X.prog X.w) X.A (spliced (backTo pos (starEach (es ++ rest) X.env))) Q X.xe s := by
  induction h with
  | nil => intro rest pos pins s σ H H0 O0 T δ Q I st hm; exact hm [] [] H s I .nil .nil st
  | @cons e es m ms hp he _ ih =>
    intro rest pos pins s σ H H0 O0 T δ Q I st hm
    rw [List.cons_append, star_plain hp]
    show wpAny _ _ (spliced ((false, eval e X.env) :: backTo pos (starEach (es ++ rest) X.env))) _ _ s
    unfold bnd at hm
    cases e1 : m δ with
    | bad => simp only [e1] at hm
    | exn x δ1 =>
      simp only [e1] at hm
      exact Calls.spliced_cons (thn (he.run pins s σ H (fun _ _ => False) I ⟨H0, O0, T, δ, st, by simp only [e1]; exact hm⟩) fun u s1 ⟨_, _, _, _, q⟩ => q.elim)
    | ok o δ1 =>
      simp only [e1] at hm
      refine Calls.spliced_cons (thn (he.run pins s σ H (fun v H1 => OpdV σ v o ∧ Ste X.K H0 O0 σ H1 δ1 (tmp v o ++ T)) I ⟨H0, O0, T, δ, st, by simp only [e1]; exact fun v H' a b => ⟨a, b⟩⟩) fun u s1 ⟨v, H1, I1, r1, ov, st1⟩ => ?_)
      refine ih rest pos pins s1 σ H1 H0 O0 (tmp v o ++ T) δ1 _ I1 st1 ?_
      cases e2 : ms δ1 with
      | bad => simp only [e2] at hm
      | exn x δ2 => simp only [e2] at hm; exact fun cls d H' a b => hm cls d H' a b.drop
      | ok os δ2 =>
        simp only [e2, ret] at hm
        intro vs us H' s' I' r' ovs st'
        exact hm (v :: vs) (u :: us) H' s' I' (.cons r1 r') (.cons ov ovs) (by simpa [tmps] using st')
theorem Gh.none {Q : Hp → Prop} {H : Hp} (g : Gh Q H) : Gh (fun H' => Q H' ∧ ∀ b, H b = Option.none → H' b = Option.none) H := by
  induction g with
  | done q => exact .done ⟨q, fun _ h => h⟩
  | @frz H a u h m _ ih =>
    refine .frz h m fun od => (ih od).mono fun H' ⟨q, n⟩ => ⟨q, fun b hb => n b ?_⟩
    rw [upd_ne (fun z => by subst z; rw [hb] at h; cases h)]
    exact hb
/-- x(e, .., y(e'), lambda) -/
noncomputable def eCallSL (Fm : List HF → FN) (m : M (List Opd)) (m1 : M Opd) (js : List Nat) (gg g2 : List PyData → GN) : M Opd :=
  bnd m fun os => bnd m1 fun o1 => bnd (takeD o1) fun d1 => bnd (takes (js.map Opd.slot)) fun cs2 => bnd (takes os) fun ds => mHand2 Fm ds (gg [d1]) (g2 cs2)
section
variable {X : Cx} {W : WX} {as : List Nat} {pos p p1 p2 lpos : Pos}
theorem se_callSL {x y : Str} {np kc k k1 n1 n2 : Nat} {Fm : List HF → FN} {e e' : Expr} {es : List Expr} {m : M (List Opd)} {m1 : M Opd} {lparams : Arguments} {lbody : Expr} {lscope : Scope} {fr2 : List Str} {js : List Nat} {gg g2 : List PyData → GN} {nm : Nat → Nat → Str} (c : HalF X.prog X.w X.K X.mg X.base kc k x np Fm) (mf : MakF X.prog X.w X.K X.mg X.base kc k1 y n1 gg)
    (tk : Takes X W) (hG : X.A.guards = some []) (hr : Room k X.A) (hr1 : Room k1 X.A) (hg : Gl X x) (hg1 : Gl X y) (hf : ∀ x, X.fn x = true) (tb : TbX X nm) (hn : nm lpos.line lpos.col = X.env.qual ++ "<lambda>") (hdef : defaultsOf lparams X.env = ([], []))
    (hfree : ∀ z ∈ lscope.names, z.2 = .free → X.env.scope.names.lookup z.1 = some .cell ∨ X.env.scope.names.lookup z.1 = some .free) (c2 : ClS X kc (lamF X lparams lbody lscope) n2 fr2 js g2)
    (ha : Rw X W (e :: es) m) (he : SE X W e' m1) (hp : plainE e = true) (hp' : plainE e' = true) (hdb : (x == ("__debug__" : Str)) = false) (hdb1 : (y == ("__debug__" : Str)) = false)
    (hpl : (backTo pos (starEach (es ++ [.Call (.Name y p1) [e'] [] p2, .Lambda lparams lbody lscope lpos]) X.env)).any (·.1) = false) :
    SE X W (.Call (.Name x p) ((e :: es) ++ [.Call (.Name y p1) [e'] [] p2, .Lambda lparams lbody lscope lpos]) [] pos) (eCallSL Fm m m1 js gg g2) := by
  obtain ⟨⟨f0, fd, ps, hng, hm0, hk, hb, hps⟩, ar⟩ := c
  obtain ⟨⟨f1, fd1, q1, hm1, hk1, hb1, run1⟩, ln1⟩ := mf
  refine ⟨fun pins s σ H Q I h => wpAny_Call_Name_kw (ld_glob I hg hm0 ?_ hdb)⟩
  obtain ⟨H0, O0, T, δ, st, hq⟩ := h
  refine PySem.W.callWith_K (h₀ := X.base) I.ok.mod.kin hk ?_ (star_plain hp _ X.env) hpl
  refine rw_run ha _ pos pins s σ H H0 O0 T δ _ I st ?_
  unfold eCallSL bnd at hq
  cases e1 : m δ with
  | bad => simp only [e1] at hq
  | exn z δ1 => simp only [e1] at hq; exact hq
  | ok os δ1 =>
    simp only [e1] at hq
    intro vs0 us0 H1 s1 I1 r1 ov st1
    show wpAny _ _ (spliced ((false, eval (.Call (.Name y p1) [e'] [] p2) X.env) :: backTo pos (starEach [.Lambda lparams lbody lscope lpos] X.env))) _ _ s1
    refine Calls.spliced_cons (wpAny_Call_Name_kw (ld_glob I1 hg1 hm1 ?_ hdb1))
    cases e2 : m1 δ1 with
    | bad => simp only [e2] at hq
    | exn z δ2 =>
      simp only [e2] at hq
      refine PySem.W.callWith_K (h₀ := X.base) I1.ok.mod.kin hk1 ?_ (star_plain hp' [] X.env) (by rfl)
      rw [star_plain hp' [] X.env]
      refine Calls.spliced_cons (thn (he.run pins s1 σ H1 (fun _ _ => False) I1 ⟨H0, O0, _, δ1, st1, by simp only [e2]; exact fun cls d H' a b => hq cls d H' a b.drop⟩) fun u s2 ⟨_, _, _, _, q⟩ => q.elim)
    | ok o1 δ2 =>
      simp only [e2] at hq
      cases e3 : takeD o1 δ2 with
      | bad => simp only [e3] at hq
      | exn z δ3 => exact absurd e3 takeD_noexn
      | ok d1 δ3 =>
        simp only [e3] at hq
        have key : tE X.K W m1 σ H1 fun v H2 => Gh (fun H3 => IsD X.K H3 v d1 ∧ Ste X.K H0 O0 σ H3 δ3 (tmps vs0 os ++ T)) H2 := ⟨H0, O0, _, δ1, st1, by
          simp only [e2]
          exact fun v H2 ov2 st2 => takeD_gh ov2 st2 e3 fun H3 _ st3 iv => ⟨iv, st3⟩⟩
        refine PySem.W.callWith_K (h₀ := X.base) I1.ok.mod.kin hk1 ?_ (star_plain hp' [] X.env) (by rfl)
        rw [star_plain hp' [] X.env]
        refine Calls.spliced_cons (thn (he.gh.run pins s1 σ H1 _ I1 key) fun u s2 ⟨v, H2, I2, rv, iv, st2⟩ => Calls.spliced_nil ⟨I2.kIn, ?_⟩)
        have hT : TabsN Tb.tt H2 := by obtain ⟨L, _, R⟩ := st2; exact R.tb
        have hbd1 : BindsTo s2 fd1 ⟨[u], []⟩ [(q1, u)] := hb1 s2 [u] I2.kIn rfl
        refine wpAny_call (run1 X.A X.stack s2 H2 ⟨[u], []⟩ u v _ hG hr1 I2.env0 hbd1 rv hT fun f' F' fr H3 s3 os3 bare3 un3 hok3 eN T3 g1 g2' CA hlt cfo => ?_)
        obtain ⟨v3, H3', I3, rv3, qv, qH⟩ := I2.after (Q := fun v H' => v = .ref f' ∧ H' = H3) (u := .ref f') ⟨.ref f', H3, os3, bare3, un3, hok3, rfl, rfl, rfl⟩
        subst qv qH
        have st3 : Ste X.K H0 O0 σ H3' δ3 ((.ref f', .fn f' F' [] []) :: (tmps vs0 os ++ T)) := by
          obtain ⟨L, z, R⟩ := st2
          have s0 : Ste X.K H0 O0 σ H3' δ3 (tmps vs0 os ++ T) := ⟨L, z, R.tstep eN T3⟩
          refine Ste.step (Tc := []) (Tn := [(.ref f', .fn f' F' [] [])]) s0 fun oc hc _ => ?_
          cases hc
          exact ⟨[] ++ [], .cons (.fn g1 g2' .nil) .nil, List.nodup_nil, fun a ha => (by cases ha), Kp.refl _ _⟩
        have iv3 : IsD X.K H3' v d1 := iv.stays (ExtN.stays eN)
        have cnew : ∀ z c, F'.cl.lookup z = some c → c ∉ frs X.stack := fun z c q hm => by
          rcases List.mem_cons.mp (I2.stkSub c hm) with e | e
          · have := hlt z c q
            rw [e] at this
            exact absurd (Nat.lt_of_lt_of_le I2.lt this) (Nat.lt_irrefl _)
          · exact I2.nofs (hlt z c q) e
        -- the lambda
        show wpAny _ _ (spliced ((false, eval (.Lambda lparams lbody lscope lpos) X.env) :: backTo pos (starEach [] X.env))) _ _ s3
        refine Calls.spliced_cons (mk_lamK I3 tb hn T3 hdef (fun z hz e => (hfree z hz e).elim (fun q => I3.ok.has _ (.inl q)) fun q => I3.ok.has _ (.inr q)) fun f2 c2' H4 s4 I4 eN4 T4 h1 h2 kp4 => Calls.spliced_nil ?_)
        have CA4 : CellsAt F'.cl fr [some v] s4.heap H4 := by
          have kk : ∀ z c, F'.cl.lookup z = some c → ∀ o, s3.heap.get? c = some o → s4.heap.get? c = some o ∧ H4 c = none := fun z c q o e => kp4 c o (CA.all z c q).1 e
          refine ⟨CA.len, fun z c q => ?_, CA.inj, fun i z q => ?_⟩
          · obtain ⟨n, w, o, ho, hd⟩ := CA.all z c q
            exact ⟨(kk z c q o ho).2, w, o, (kk z c q o ho).1, hd⟩
          · obtain ⟨c, hc, hv⟩ := CA.has i z q
            refine ⟨c, hc, fun w ew => ?_⟩
            obtain ⟨u', r, o, ho, hd⟩ := hv w ew
            exact ⟨u', r, o, (kk z c hc o ho).1, hd⟩
        have st4 : Ste X.K H0 O0 σ H4 δ3 ((.ref f2, .fn f2 (lamF X lparams lbody lscope c2') [] []) :: ((.ref f', .fn f' F' [] []) :: (tmps vs0 os ++ T))) := by
          obtain ⟨L, z, R⟩ := st3
          have s0 : Ste X.K H0 O0 σ H4 δ3 ((.ref f', .fn f' F' [] []) :: (tmps vs0 os ++ T)) := ⟨L, z, R.tstep eN4 T4⟩
          refine Ste.step (Tc := []) (Tn := [(.ref f2, .fn f2 (lamF X lparams lbody lscope c2') [] [])]) s0 fun oc hc _ => ?_
          cases hc
          exact ⟨[] ++ [], .cons (.fn h1 h2 .nil) .nil, List.nodup_nil, fun a ha => (by cases ha), Kp.refl _ _⟩
        have iv4 : IsD X.K H4 v d1 := iv3.stays (ExtN.stays eN4)
        refine ⟨I4.kIn, ?_⟩
        cases e4 : takes (js.map Opd.slot) δ3 with
        | bad => simp only [e4] at hq
        | exn z δ4 => exact absurd e4 takes_noexn
        | ok cs2 δ4 =>
          simp only [e4] at hq
          obtain ⟨ws2, o2, w2, t2⟩ := opd_slots st4 (takes_slots e4)
          cases e5 : takes os δ4 with
          | bad => simp only [e5] at hq
          | exn z δ5 => exact absurd e5 takes_noexn
          | ok ds δ5 =>
            simp only [e5] at hq
            have g0 : Gh (fun H6 => Stays H4 H6 ∧ IsAll X.K H6 ws2 cs2 ∧ IsAll X.K H6 vs0 ds ∧ Ste X.K H0 O0 σ H6 δ5 ((.ref f2, .fn f2 (lamF X lparams lbody lscope c2') [] []) :: ((.ref f', .fn f' F' [] []) :: T))) H4 := by
              refine Gh.bind (takes_gh (Q := fun H5 => Stays H4 H5 ∧ Ste X.K H0 O0 σ H5 δ4 ((.ref f2, .fn f2 (lamF X lparams lbody lscope c2') [] []) :: ((.ref f', .fn f' F' [] []) :: (tmps vs0 os ++ T))) ∧ IsAll X.K H5 ws2 cs2) o2 (by rw [t2]; exact st4) e4 fun H5 a b c => ⟨a, b, c⟩) fun H5 ⟨sa, st5, i2⟩ => ?_
              refine takes_gh (T := (.ref f2, .fn f2 (lamF X lparams lbody lscope c2') [] []) :: ((.ref f', .fn f' F' [] []) :: T)) ov (st5.perm ?_) e5 fun H6 sb st6 ia => ⟨sa.trans sb, i2.stays sb, ia, st6⟩
              exact perm3 [(.ref f2, .fn f2 (lamF X lparams lbody lscope c2') [] []), (.ref f', .fn f' F' [] [])] (tmps vs0 os) T
            obtain ⟨H6, I6, ⟨sa, i2, ia, st6⟩, nn6⟩ := Inv.gh g0.none I4
            have iv6 : IsD X.K H6 v d1 := iv4.stays sa
            have CA6 : CellsAt F'.cl fr [some v] s4.heap H6 := ⟨CA4.len, fun z c q => ⟨nn6 c (CA4.all z c q).1, (CA4.all z c q).2⟩, CA4.inj, CA4.has⟩
            unfold mHand2 at hq
            by_cases ex : ∃ r, Hands2 Fm ds (gg [d1]) (g2 cs2) r
            · rw [dif_pos ex] at hq
              have sp := Classical.choose_spec ex
              generalize Classical.choose ex = ro at hq sp
              let a : HF := ⟨f', F', [v], [d1], gg [d1]⟩
              let b : HF := ⟨f2, lamF X lparams lbody lscope c2', ws2, cs2, g2 cs2⟩
              have e0 : Fm [a, b] (hands a b ds) = ro.fr (hands a b ds) := sp a b rfl rfl
              have ln : (hands a b ds).length = np := by
                have := ar [a, b] (hands a b ds)
                rw [e0] at this
                cases ro <;> exact this.1
              have lv : (vs0 ++ [V.ref f', V.ref f2]).length = np := by
                rw [← ln]; unfold hands; simp [ia.length]
              have rall : Vals (vs0 ++ [V.ref f', V.ref f2]) (us0 ++ [.ref f', .ref f2]) := r1.append (.cons rfl (.cons rfl .nil))
              have hbd : BindsTo s4 fd ⟨us0 ++ [.ref f', .ref f2], []⟩ (ps.zip (us0 ++ [.ref f', .ref f2])) := by
                have b := hb s4 (us0 ++ [.ref f', .ref f2]) I6.kIn (by rw [List.append_nil, ← rall.length, lv, hps])
                rwa [List.append_nil] at b
              have zp : (vs0 ++ [V.ref f', V.ref f2]).zip (hands a b ds) = vs0.zip (ds.map SV.dat) ++ [(V.ref f', a.sv), (V.ref f2, b.sv)] := by
                unfold hands
                rw [List.zip_append (by rw [List.length_map]; exact ia.length)]
                rfl
              obtain ⟨L, z, R⟩ := st6
              have R1 : Rel X.K H0 O0 H6 ([(V.ref f', a.sv), (V.ref f2, b.sv)] ++ (L ++ T)) := Rel.step (Lc := [(V.ref f2, SV.fn f2 (lamF X lparams lbody lscope c2') [] []), (V.ref f', SV.fn f' F' [] [])]) (R.perm (perm3 L [(V.ref f2, SV.fn f2 (lamF X lparams lbody lscope c2') [] []), (V.ref f', SV.fn f' F' [] [])] T)) fun oc hc nd => by
                cases hc with
                | cons h1 hc =>
                  cases hc with
                  | cons h2 hc =>
                    cases hc
                    cases h1 with
                    | fn x1 x2 _ =>
                      cases h2 with
                      | fn y1 y2 _ => exact ⟨[] ++ ([] ++ []), .cons (.fn y1 y2 (.cons iv6 .nil)) (.cons (.fn x1 x2 i2) .nil), nd, fun z hz => (by cases hz), Kp.refl _ _⟩
              have wish : spF X.K ps.length (Fm [a, b]) (vs0 ++ [V.ref f', V.ref f2]) H6 Q (WE W σ) := by
                refine ⟨H0, O0, L ++ T, hands a b ds, by rw [lv, hps], by rw [ln, hps], ?_, ?_⟩
                · rw [zp, List.append_assoc]
                  exact Rel.dats ia R1
                · rw [e0]
                  cases ro with
                  | v d =>
                    refine ⟨by rw [ln, hps], fun v H' R' => hq v H' True.intro ⟨L, z, ?_⟩⟩
                    have p : ((v, SV.dat d) :: ((vs0 ++ [V.ref f', V.ref f2]).zip (hands a b ds) ++ (L ++ T))).Perm ((vs0 ++ [V.ref f', V.ref f2]).zip (hands a b ds) ++ ((v, SV.dat d) :: (L ++ T))) := List.perm_middle.symm
                    exact ((R'.perm p).drop).perm (List.perm_middle (a := (v, SV.dat d)) (l₁ := L) (l₂ := T)).symm
                  | x y => exact ⟨by rw [ln, hps], fun cls d H' a R' => hq cls d H' a ⟨L, z, R'.drop⟩⟩
              have cl1 : CloAt X.prog X.w X.K X.mg X.base kc X.stack s4 H6 a := ⟨⟨n1, fr, gg, cfo, CA6, rfl, ln1 _⟩, cnew⟩
              refine wpAny_call (codeAny_mono (hng.go [a, b] X.A X.stack s4 H6 ⟨us0 ++ [.ref f', .ref f2], []⟩ _ _ Q (WE W σ) hG hr I6.env0 hbd rall ?_ wish) fun out s' hq => ?_)
              · intro c hc
                rcases List.mem_cons.mp hc with rfl | hc
                · exact cl1
                · rcases List.mem_cons.mp hc with rfl | hc
                  · exact clo_at c2 I6 hf w2 f2 c2'
                  · cases hc
              · rcases out with x | fl
                · exact passAt tk σ pins H6 s4 x s' I6 hq
                · rcases fl with _ | _ | _ | u
                  all_goals first | exact I6.after hq | exact False.elim hq
            · rw [dif_neg ex] at hq
              exact hq.elim
end
end Ev

/-! D39: a head's hook that also sees the tables of the defs that make lambdas. -/
namespace Hz
open PySem PySem.Spec PyProof.Rows L2 He

abbrev Mk : Type := List (Str × (Nat → Nat → Str))
def csT (K : PySem.W.Frag) (mks : Mk) : List (Addr × Addr) := mks.filterMap fun m => PySem.W.tabIn K m.1
def ttT (K : PySem.W.Frag) (mks : Mk) : List NdefX.NTab := mks.filterMap fun m => (PySem.W.tabIn K m.1).map fun cp => (cp.2, m.2)
def emp (o : Option Obj) : Bool := match o with
  | some ⟨.none, none, .fields vs, sl⟩ => vs.toList.isEmpty && sl.toList.isEmpty
  | _ => false
theorem emp_eq {o : Option Obj} (h : emp o = true) : o = some ({ cls := .none, data := .fields #[] } : Obj) := by
  unfold emp at h
  split at h
  · rename_i vs sl
    rw [Bool.and_eq_true] at h
    have h1 : vs = #[] := by
      have := List.isEmpty_iff.mp h.1
      exact Array.toList_inj.mp (by simpa using this)
    have h2 : sl = #[] := by
      have := List.isEmpty_iff.mp h.2
      exact Array.toList_inj.mp (by simpa using this)
    subst h1 h2
    rfl
  · cases h
def tabB (g : Addr → Option Obj) (K : PySem.W.Frag) (x : Str) : Bool := match PySem.W.tabIn K x with
  | some (c, P) => PySem.W.codeHdIn K c P && (emp (g P) && (K.lookup P).isNone)
  | none => false
/-- the objects that are known: no maker's table -/
def asTb (g : Addr → Option Obj) (n : Nat) (mks : Mk) : List Addr := (asY g n).filter fun a => !((csT (frG g (asY g n)) mks).map (·.2)).contains a
def knT (g : Addr → Option Obj) (n : Nat) (mks : Mk) : PySem.W.Frag := frG g (asTb g n mks)
abbrev AlT : Type := AlD × Bool × List FnS × Bool
def okT (g : Addr → Option Obj) (K : PySem.W.Frag) (mks : Mk) : Bool := mks.all (fun m => tabB g K m.1) && decide ((csT K mks).map (·.2)).Nodup
def obsT (n : Nat) (fa : List Fa) (fn : List DefD) (ex : PySem.W.Frag → Bool) (xs : List (Str × FnS)) (mks : Mk) (g : Addr → Option Obj) : AlT := (obsD fa fn (knT g n mks), ex (knT g n mks), inS (knT g n mks) xs, okT g (knT g n mks) mks)
structure SaysT (fa : List Fa) (fn : List DefD) (ex : PySem.W.Frag → Bool) (xs : List (Str × FnS)) (mks : Mk) (K : PySem.W.Frag) (h : Heap) : Prop where
  z : SaysZ fa fn ex xs K
  tabs : ∀ m ∈ mks, ∃ c P, PySem.W.tabIn K m.1 = some (c, P) ∧ PySem.W.codeHdIn K c P = true ∧ h.get? P = some ({ cls := .none, data := .fields #[] } : Obj) ∧ K.lookup P = none
  nd : ((csT K mks).map (·.2)).Nodup
theorem okT_of {h : Heap} {K : PySem.W.Frag} {mks : Mk} (e : okT h.get? K mks = true) : (∀ m ∈ mks, ∃ c P, PySem.W.tabIn K m.1 = some (c, P) ∧ PySem.W.codeHdIn K c P = true ∧ h.get? P = some ({ cls := .none, data := .fields #[] } : Obj) ∧ K.lookup P = none) ∧ ((csT K mks).map (·.2)).Nodup := by
  unfold okT at e
  rw [Bool.and_eq_true] at e
  refine ⟨fun m hm => ?_, of_decide_eq_true e.2⟩
  have q := List.all_eq_true.mp e.1 m hm
  unfold tabB at q
  split at q
  · rename_i c P e1
    simp only [Bool.and_eq_true] at q
    exact ⟨c, P, e1, q.1, emp_eq q.2.1, by simpa using q.2.2⟩
  · cases q
def hookT (n : Nat) (fa : List Fa) (fn : List DefD) (ex : PySem.W.Frag → Bool) (xs : List (Str × FnS)) (mks : Mk) : PySem.W.Hook where
  α := AlT
  obs := fun s => obsT n fa fn ex xs mks s.heap.get?
  val := fun _ => (valD fn, true, xs.map fun p => p.2, true)
  says := fun _ h => ∃ K : PySem.W.Frag, K.In h ∧ SaysT fa fn ex xs mks K h
  of := fun _ s e => ⟨knT s.heap.get? n mks, frG_in, ⟨congrArg (fun z : AlT => z.1) (show (_ : AlT) = _ from e), congrArg (fun z : AlT => z.2.1) (show (_ : AlT) = _ from e), congrArg (fun z : AlT => z.2.2.1) (show (_ : AlT) = (valD fn, true, xs.map (fun p => p.2), true) from e)⟩,
    (okT_of (congrArg (fun z : AlT => z.2.2.2) (show (_ : AlT) = (valD fn, true, xs.map (fun p => p.2), true) from e))).1, (okT_of (congrArg (fun z : AlT => z.2.2.2) (show (_ : AlT) = (valD fn, true, xs.map (fun p => p.2), true) from e))).2⟩
  keeps := fun _ _ _ ⟨K, hK, c⟩ k => ⟨K, PySem.W.Frag.In.keeps hK k, c.z, fun m hm => by obtain ⟨a, P, e1, e2, e3, e4⟩ := c.tabs m hm; exact ⟨a, P, e1, e2, k _ _ e3, e4⟩, c.nd⟩
theorem obsT_eq {n : Nat} {fa : List Fa} {fn : List DefD} {ex : PySem.W.Frag → Bool} {xs : List (Str × FnS)} {mks : Mk} {g : Addr → Option Obj} {s : Shared} (h : ∀ a, g a = s.heap.get? a) : obsT n fa fn ex xs mks g = (hookT n fa fn ex xs mks).obs s := by
  have e : g = s.heap.get? := funext h
  rw [e]; rfl
theorem tabIn_inv {K : PySem.W.Frag} {x : Str} {c P : Addr} (h : PySem.W.tabIn K x = some (c, P)) : ∃ f oc od fd osl, PySem.W.nsIn K mainGlobals x = some (some (.ref f)) ∧ K.lookup f = some ⟨oc, od, .func fd, osl⟩ ∧ fd.code = .ref c := by
  unfold PySem.W.tabIn at h
  split at h
  · rename_i f hf
    split at h
    · rename_i oc od fd osl hfo
      split at h
      · rename_i c2 hc
        split at h
        · split at h
          · cases h; exact ⟨f, oc, od, fd, osl, hf, hfo, hc⟩
          · cases h
        · cases h
      · cases h
    · cases h
  · cases h
section
variable {fa : List Fa} {fn : List DefD} {ex : PySem.W.Frag → Bool} {xs : List (Str × FnS)} {mks : Mk} {K : PySem.W.Frag} {h : Heap} {mg : Str → Option Value}
abbrev tbT (K : PySem.W.Frag) (mks : Mk) : Ev.Tb := ⟨ttT K mks⟩
theorem SaysT.ok (c : SaysT fa fn ex xs mks K h) (KX : K.In h) : (∀ p ∈ csT K mks, h.get? p.2 = some ({ cls := .none, data := .fields #[] } : Obj)) ∧ (∀ p ∈ csT K mks, K.lookup p.2 = none) ∧ (∀ p ∈ csT K mks, PySem.W.CodeHd h p.1 p.2) ∧ @Ev.TbOk (tbT K mks) (csT K mks) := by
  have key : ∀ p ∈ csT K mks, ∃ m ∈ mks, PySem.W.tabIn K m.1 = some p := fun p hp => List.mem_filterMap.mp hp
  refine ⟨fun p hp => ?_, fun p hp => ?_, fun p hp => ?_, @Ev.TbOk.mk (tbT K mks) _ fun q hq => ?_⟩
  · obtain ⟨m, hm, e⟩ := key p hp
    obtain ⟨a, P, e1, e2, e3, e4⟩ := c.tabs m hm
    rw [e] at e1; cases e1; exact e3
  · obtain ⟨m, hm, e⟩ := key p hp
    obtain ⟨a, P, e1, e2, e3, e4⟩ := c.tabs m hm
    rw [e] at e1; cases e1; exact e4
  · obtain ⟨m, hm, e⟩ := key p hp
    obtain ⟨a, P, e1, e2, e3, e4⟩ := c.tabs m hm
    rw [e] at e1; cases e1; exact PySem.W.codeHd_of_K KX e2
  · obtain ⟨m, hm, e⟩ := List.mem_filterMap.mp hq
    obtain ⟨cp, e1, e2⟩ := Option.map_eq_some_iff.mp e
    exact ⟨cp, List.mem_filterMap.mpr ⟨m, hm, e1⟩, by rw [← e2]⟩
theorem tt_uniq : ∀ {mks : Mk}, ((csT K mks).map (·.2)).Nodup → ∀ p ∈ ttT K mks, ∀ q ∈ ttT K mks, p.1 = q.1 → p.2 = q.2
  | [], _, p, hp, _, _, _ => by cases hp
  | m :: mks, nd, p, hp, q, hq, e => by
    unfold csT at nd
    unfold ttT at hp hq
    rw [List.filterMap_cons] at nd hp hq
    cases em : PySem.W.tabIn K m.1 with
    | none =>
      simp only [em, Option.map_none] at nd hp hq
      exact tt_uniq (mks := mks) nd p hp q hq e
    | some cp =>
      simp only [em, Option.map_some, List.map_cons, List.nodup_cons] at nd hp hq
      have inC : ∀ z ∈ ttT K mks, z.1 ∈ (csT K mks).map (·.2) := fun z hz => by
        obtain ⟨m', hm', e'⟩ := List.mem_filterMap.mp hz
        obtain ⟨cp', e1, e2⟩ := Option.map_eq_some_iff.mp e'
        exact List.mem_map.mpr ⟨cp', List.mem_filterMap.mpr ⟨m', hm', e1⟩, by rw [← e2]⟩
      rcases List.mem_cons.mp hp with rfl | hp
      · rcases List.mem_cons.mp hq with rfl | hq
        · rfl
        · exact absurd (by rw [show cp.2 = q.1 from e]; exact inC q hq) nd.1
      · rcases List.mem_cons.mp hq with rfl | hq
        · exact absurd (by rw [show cp.2 = p.1 from e.symm]; exact inC p hp) nd.1
        · exact tt_uniq (mks := mks) nd.2 p hp q hq e
theorem SaysT.tb (c : SaysT fa fn ex xs mks K h) (KX : K.In h) (G : h.Ns mainGlobals mg) {base : Heap} (hB : ∀ p ∈ csT K mks, LamX.TabB base mg p.1 p.2) (i : Nat) {x : Str} {nm : Nat → Nat → Str} (hi : mks[i]? = some (x, nm)) {f : Addr} (hf : mg x = some (.ref f)) : @Ev.TbF (tbT K mks) K mg base f nm := by
  have hm : (x, nm) ∈ mks := List.mem_of_getElem? hi
  obtain ⟨cc, P, e1, e2, e3, e4⟩ := c.tabs _ hm
  obtain ⟨f', oc, od, fd, osl, g1, g2, g3⟩ := tabIn_inv e1
  have ef : f' = f := by
    have := PySem.W.mg_of KX G g1
    rw [hf] at this; cases this; rfl
  subst ef
  have inT : (P, nm) ∈ ttT K mks := List.mem_filterMap.mpr ⟨(x, nm), hm, by rw [e1]; rfl⟩
  exact @Ev.TbF.mk (tbT K mks) _ _ _ _ _ ⟨cc, P, oc, od, fd, osl, g2, g3, hB _ (List.mem_filterMap.mpr ⟨(x, nm), hm, e1⟩), inT, fun p hp e => tt_uniq c.nd p hp (P, nm) inT e⟩
end
end Hz
namespace L2
open PySem
theorem Room.u65 {k : Nat} {A : Around} (h : Room k A) : A.units + 65 < cLine := by have := h.un; omega
end L2

/-! D40: a tuple from behind. -/
namespace HT
open PySem PySem.Spec PyProof.Rows
section
variable {prog : Program} {w : World} {A : Around} {E : Value → Shared → Prop} {s : Shared}
theorem places_rev (n : Nat) : Builtin.Slice.slicePlaces ((n : Int) - 1) (-1) (-1) = n := by
  unfold Builtin.Slice.slicePlaces
  rw [if_neg (by decide)]
  split
  · rw [show (-(-1) : Int) = 1 by decide, Int.ediv_one]; omega
  · rw [show ((0 : Int).toNat) = 0 from rfl]; omega
theorem fm_congr {α β : Type} {f g : α → Option β} : ∀ {l : List α}, (∀ x ∈ l, f x = g x) → l.filterMap f = l.filterMap g
  | [], _ => rfl
  | x :: l, h => by
    rw [List.filterMap_cons, List.filterMap_cons, h x (by simp), fm_congr fun y hy => h y (List.mem_cons_of_mem _ hy)]
theorem pick_rev (xs : Array Value) : ((List.range xs.size).filterMap fun (m : Nat) => xs[(((xs.size : Int) - 1) + (m : Int) * (-1)).toNat]?).toArray = xs.toList.reverse.toArray := by
  have h := PySem.W.krv_all xs
  have e : (List.range xs.size).filterMap (fun (m : Nat) => xs[(((xs.size : Int) - 1) + (m : Int) * (-1)).toNat]?) = ((List.range xs.size).map fun k => xs.size - 1 - k).filterMap (xs[·]?) := by
    rw [List.filterMap_map]
    refine fm_congr fun m hm => ?_
    have := List.mem_range.mp hm
    show xs[_]? = xs[xs.size - 1 - m]?
    congr 1
    omega
  rw [e, PySem.W.krv_range, List.filterMap_reverse, h]
theorem sliceApplied_rev {sl : Addr} {vs : Value} {n : Nat} {Q : Int × Int × Nat → Shared → Prop} (hs : s.heap.IsSliceOf sl .none .none vs) (ps : IsPart vs (some (-1)))
    (h : Q ((n : Int) - 1, -1, n) s) : wpAny (model prog w) A (Builtin.Slice.sliceApplied (.ref sl) (pure (n : Int))) Q E s := by
  obtain ⟨os, hos, hcs, hds⟩ := id hs
  unfold Builtin.Slice.sliceApplied Builtin.Slice.sliceFields
  refine wpAny_bind (wpAny_bind (wpAny_field hos hds (x := .none) rfl (wpAny_bind (wpAny_field hos hds (x := .none) rfl (wpAny_bind (wpAny_field hos hds (x := vs) rfl (wpAny_pure ?_)))))))
  refine wpAny_bind (slicePart_ ps ?_)
  show wpAny _ _ (if ((-1 : Int) == 0) = true then _ else _) _ _ s
  rw [if_neg (by decide)]
  refine wpAny_bind (slicePart_ .none (wpAny_bind (slicePart_ .none (wpAny_bind (wpAny_pure ?_)))))
  show wpAny _ _ (pure ((n : Int) - 1, (-1 : Int), Builtin.Slice.slicePlaces ((n : Int) - 1) (-1) (-1))) _ _ s
  rw [places_rev]
  exact wpAny_pure h
theorem getItem_tuple_rev {t sl : Addr} {items : Array Value} {vs : Value} {Q : Value → Shared → Prop} (ht : IsTup s.heap t items) (hs : s.heap.IsSliceOf sl .none .none vs) (ps : IsPart vs (some (-1)))
    (h : Q (.ref s.heap.objs.size) { s with heap := s.heap.push { cls := .type "tuple", data := .seq items.toList.reverse.toArray } })
    (hsz : items.size ≤ sizeLine) : wpAny (model prog w) A (getItem (.ref t) (.ref sl)) Q E s := by
  have htake : sizeOk (.seq items.toList.reverse.toArray) := by
    show items.toList.reverse.toArray.size ≤ sizeLine
    rw [List.size_toArray, List.length_reverse, Array.length_toList]
    exact hsz
  obtain ⟨os, hos, hcs, hds⟩ := id hs
  have hTs : s.TypeIs (.ref sl) "slice" := ⟨os, hos, hcs⟩
  unfold getItem
  try with_reducible refine wpAny_holding ?_
  first | refine wpAny_bind (wpAny_pure ?_) | skip
  refine wpAny_bind (wpAny_sequenceKey ht.typeIs (by decide) ?_)
  refine wpAny_bind (wpAny_callSpecial?_slot (name := Str.ofString "__getitem__") ht.typeIs PyProof.Rows.slot_tuple_getitem
    (wpAny_call_entry PyProof.Rows.slot_tuple_getitem ht.typeIs entry_tuple_getitem ?_ (args_tuple_getitem _ _)))
  show wpAny _ _ (Builtin.Tuple.tupleItemsOf (.ref t) >>= _) _ _ s
  refine wpAny_bind (tupleItemsOf_ ht ?_)
  refine wpAny_bind (wpAny_typeOf hTs ?_)
  rw [if_pos (by decide)]
  refine wpAny_bind (sliceApplied_rev hs ps ?_)
  have hno : ¬ ((((items.size : Int) - 1) == 0 && (-1 : Int) == 1 && items.size == items.size) = true) := by
    rw [show ((-1 : Int) == 1) = false by decide, Bool.and_false, Bool.false_and]
    decide
  show wpAny _ _ (if (((items.size : Int) - 1) == 0 && (-1 : Int) == 1 && items.size == items.size) = true then _ else _) _ _ s
  rw [if_neg hno, pick_rev]
  first
    | exact wpAny_bind (m := Builtin.Tuple.tupleExact _) (wpAny_newObj_type (wpAny_pure ⟨_, rfl, wpAny_pure h⟩) htake)
    | exact wpAny_bind (m := Builtin.Tuple.tupleExact _) (wpAny_newObj_type (wpAny_bind (wpAny_pure (wpAny_pure ⟨_, rfl, wpAny_pure h⟩))) htake)
    | exact wpAny_bind (wpAny_bind (m := Builtin.Tuple.tupleExact _) (wpAny_newObj_type (wpAny_pure (wpAny_pure ⟨_, rfl, wpAny_pure h⟩)) htake))
    | exact wpAny_bind (wpAny_bind (m := Builtin.Tuple.tupleExact _) (wpAny_newObj_type (wpAny_pure ⟨_, rfl, wpAny_pure h⟩) htake))
end
end HT
namespace Ev
open PySem PySem.Spec L2
open PyProof.Rows hiding St
variable [Tb]
/-- from behind: lists, texts, tuples -/
def gRevY : PyData → Option SV
  | .tuple ds => some (.dat (.tuple ds.reverse))
  | d => gRevX d
section
variable {X : Cx} {W : WX} {as : List Nat} {pos p p1 p2 p3 p4 : Pos}
theorem pe_revT {e : Expr} {te : TE} {k : Nat} (he : PE X e te) : PE X (.Subscript e (.Slice none none (some (.UnaryOp .USub (.Constant (.int 1) k p1) p2)) p3) pos)
    (fun σ H Q => te σ H fun x H1 => ∃ a xs, x = .ref a ∧ SqT X.K H1 a xs ∧ ∀ p, H1 p = none → Q (.ref p) (upd H1 p (.tup xs.reverse))) := by
  refine ⟨fun pins s σ H Q I h => ?_⟩
  refine Subscript_ (thn (he.run pins s σ H _ I h) fun v s1 ⟨x, H1, I1, r1, q1⟩ => ?_)
  obtain ⟨a, xs, ex, hx, q⟩ := q1
  subst ex
  cases r1
  have hst : PO X (some (.UnaryOp .USub (.Constant (.int 1) k p1) p2)) (tPart (tUn (rU fun i => .int (-i)) (tC (.int 1)))) := po_some (pe_un un_neg pe_int)
  refine wpAny_Slice (thn (po_none.run pins s1 σ H1 (fun o H2 => o = none ∧ H2 = H1) I1 ⟨rfl, rfl⟩) fun vl s2 ⟨l, H2, I2, pl, el, e2⟩ => ?_)
  subst el e2
  refine thn (po_none.run pins s2 σ H2 (fun o H3 => o = none ∧ H3 = H2) I2 ⟨rfl, rfl⟩) fun vu s3 ⟨u, H3, I3, pu, eu, e3⟩ => ?_
  subst eu e3
  refine thn (hst.run pins s3 σ H3 (fun o H4 => o = some (-1) ∧ H4 = H3) I3 ⟨1, rfl, -1, rfl, rfl, rfl⟩) fun vs s4 ⟨o, H4, I4, ps, eo, e4⟩ => ?_
  subst eo e4
  have I5 : Inv X pins σ H4 { s4 with heap := s4.heap.push { cls := .type "slice", data := .fields #[vl, vu, vs] } } := I4.kept (t' := s4.toks) fun b ob q => Heap.get?_push_of_some _ q
  obtain ⟨its, r, ht, hz⟩ := I5.tuple hx
  have hlen := r.length
  cases pl
  cases pu
  show wpAny (model X.prog X.w) X.A (subscriptTail e (.Slice none none (some (.UnaryOp .USub (.Constant (.int 1) k p1) p2)) p3) (.ref a) (.ref s4.heap.objs.size)) (EP X pins σ Q) X.xe { s4 with heap := s4.heap.push { cls := .type "slice", data := .fields #[.none, .none, vs] } }
  refine tail_any (ops := [.ref a, .ref s4.heap.objs.size]) ht.typeIs (PyProof.Rows.slot_tuple_getitem.lookup) ?_ (by with_unfolding_all rfl)
  refine HT.getItem_tuple_rev ht (Heap.IsSliceOf.new _ .none .none vs) ps ?_ (by rw [List.size_toArray]; omega)
  refine ⟨.ref _, _, I5.laid (t' := s4.toks) (o := .tup xs.reverse) (fun b ob q => Heap.get?_push_of_some _ q) (Nat.le_refl _) ?_, rfl, q _ (I5.hok.fresh (Nat.le_refl _))⟩
  exact ⟨by rw [List.length_reverse]; exact hz, _, r.reverse, IsTup.new _ _⟩
theorem IsAll.rev {K : PySem.W.Frag} {H : Hp} {vs : List V} {ds : List PyData} (h : IsAll K H vs ds) : IsAll K H vs.reverse ds.reverse := h.reverse
theorem se_revY {e : Expr} {m : M Opd} {k : Nat} (he : SE X W e m) : SE X W (.Subscript e (.Slice none none (some (.UnaryOp .USub (.Constant (.int 1) k p1) p2)) p3) pos) (eOp (g1 gRevY) [m]) := by
  refine ⟨fun pins s σ H Q I h => ?_⟩
  obtain ⟨H0, O0, T, δ, st, hm⟩ := h
  have same : ∀ {f : PyData → Option SV} {o : Opd} {δ1 : DS} {d : PyData}, m δ = .ok o δ1 → o.data δ1 = some d → eOp (g1 f) [m] δ = match f d with
      | some s => .ok (.val s) δ1
      | none => .bad := fun {f o δ1 d} e e' => by
    simp only [eOp, evs, bnd, ret, e, opN, datas, e', g1]
    cases f d <;> rfl
  cases e1 : m δ with
  | bad =>
    have : eOp (g1 gRevY) [m] δ = .bad := by simp only [eOp, evs, bnd, e1]
    rw [this] at hm
    exact hm.elim
  | exn x δ1 =>
    have h1 : eOp (g1 gRevY) [m] δ = .exn x δ1 := by simp only [eOp, evs, bnd, e1]
    have h2 : eOp (g1 gRevX) [m] δ = .exn x δ1 := by simp only [eOp, evs, bnd, e1]
    rw [h1] at hm
    exact (se_rev he).run pins s σ H Q I ⟨H0, O0, T, δ, st, by rw [h2]; exact hm⟩
  | ok o δ1 =>
    cases e2 : o.data δ1 with
    | none =>
      have : eOp (g1 gRevY) [m] δ = .bad := by simp only [eOp, evs, bnd, ret, e1, opN, datas, e2]
      rw [this] at hm
      exact hm.elim
    | some d =>
      have h1 := same (f := gRevY) e1 e2
      have h2 := same (f := gRevX) e1 e2
      rw [h1] at hm
      have other : gRevY d = gRevX d → wpAny (model X.prog X.w) X.A (eval (.Subscript e (.Slice none none (some (.UnaryOp .USub (.Constant (.int 1) k p1) p2)) p3) pos) X.env) (EP X pins σ Q) X.xe s := fun q =>
        (se_rev he).run pins s σ H Q I ⟨H0, O0, T, δ, st, by rw [h2, ← q]; exact hm⟩
      cases d with
      | tuple zs =>
        refine (pe_revT he).run pins s σ H Q I ⟨H0, O0, T, δ, st, ?_⟩
        rw [e1]
        intro v H1 ov st1
        obtain ⟨a, vs, rfl, h1, t1⟩ := (opd_int ov st1 e2).tuple
        exact ⟨a, vs, rfl, h1, fun p hp => hm _ _ True.intro (st1.drop.res (Res.tup hp t1.rev))⟩
      | str z => exact other rfl
      | list zs => exact other rfl
      | none => exact other rfl
      | bool b => exact other rfl
      | int b => exact other rfl
      | dict b => exact other rfl
end
end Ev

/-! D41: tuples whose object is known (their methods), places in texts and lists, pop at a place, ranges as lists and tuples. -/
namespace Ev
open PySem PySem.Spec L2
open PyProof.Rows hiding St
variable [Tb]

def gTpl : PyData → Option SV
  | .list ds => some (.tpl ds)
  | .tuple ds => some (.dat (.tuple ds))
  | _ => none
theorem Res.tpl {K : PySem.W.Frag} {H : Hp} {p : Addr} {o : Obj} {vs : List V} {ds : List PyData} (h : H p = none) (n : o.dict = none) (i : IsAll K H vs ds) : Res K H (.ref p) (.tpl ds) (upd H p (.frz o (.tup vs))) := by
  have k : Kp [] H (upd H p (.frz o (.tup vs))) := Kp.new h
  exact ⟨k, [], .tpl upd_same n (i.stays (k.stays fun a ha => by simp at ha)), List.nodup_nil, fun a ha => by simp at ha⟩
section
variable {X : Cx} {W : WX} {as : List Nat} {pos p p1 p2 p3 p4 apos cpos : Pos}
/-- tuple(xs): the new tuple's object is told -/
theorem call_tupleK : CallR X (.type "tuple") (fun xs H Q => ∃ p ys, xs = [.ref p] ∧ ((SqL X.K H p ys ∧ ∀ l o, H l = none → o.dict = none → Q (.ref l) (upd H l (.frz o (.tup ys)))) ∨ (SqT X.K H p ys ∧ Q (.ref p) H))) := by
  intro pins s σ H xs us Q I r h
  obtain ⟨p, ys, rfl, h⟩ := h
  rcases h with ⟨hq, q⟩ | h
  · obtain ⟨u, rfl, rx⟩ := vals1 r
    cases rx
    obtain ⟨its, r', pl, hz⟩ := I.list hq
    have hlen := r'.length
    refine call_tuple_list pl.isList (fun h' kp => ?_) (by rw [List.size_toArray]; omega)
    have J : Inv X pins σ H { s with heap := h' } := I.kept (t' := s.toks) kp
    have ob : ObjOk X.prog X.w (upd H h'.objs.size (.frz { cls := .type "tuple", data := .seq its.toArray } (.tup ys))) (h'.push { cls := .type "tuple", data := .seq its.toArray }) h'.objs.size (.frz { cls := .type "tuple", data := .seq its.toArray } (.tup ys)) :=
      ⟨Heap.get?_push_size _ rfl, hz, its, r', IsTup.new _ _⟩
    exact ⟨.ref h'.objs.size, _, J.laid (t' := s.toks) (fun b o e => Heap.get?_push_of_some _ e) (Nat.le_refl _) ob, rfl, q _ _ (J.hok.fresh (Nat.le_refl _)) rfl⟩
  · exact call_tuple_of pins s σ H _ us Q I r ⟨p, ys, rfl, .inr h⟩
theorem br_tpl : BR X (.type "tuple") (g1 gTpl) := by
  intro pins s σ H xs us Q I r h
  obtain ⟨ds, sv, po, e, q⟩ := h
  unfold g1 at e
  split at e
  · cases po with | cons a t => cases t; exact (by
      unfold gTpl at e
      split at e
      · cases e
        obtain ⟨a1, vs, rfl, h1, t1⟩ := a.sql
        exact call_tupleK pins s σ H _ us Q I r ⟨_, _, rfl, .inl ⟨h1, fun l o hl ho => q _ _ (Res.tpl hl ho t1)⟩⟩
      · cases e
        obtain ⟨a1, vs, rfl, h1, t1⟩ := a.tuple
        exact call_tupleK pins s σ H _ us Q I r ⟨_, _, rfl, .inr ⟨h1, q _ _ (Res.same (.tup h1 t1))⟩⟩
      · cases e)
  · cases e
/-! ### bits -/
def gAnd : PyData → PyData → Option SV
  | .int i, .int j => some (.dat (.int (Builtin.bitAnd i j)))
  | _, _ => none
theorem opn_and : OpN X (binaryOp .BitAnd) (g2 gAnd) := by
  intro pins s σ H x y v u Q I rx ry h
  obtain ⟨ds, sv, po, e, q⟩ := h
  obtain ⟨d, e', rfl, a, b⟩ := two_opn po
  have e : gAnd d e' = some sv := e
  unfold gAnd at e
  split at e
  · cases e
    cases a.int; cases b.int
    exact op_and pins s σ H _ _ v u Q I rx ry ⟨_, _, rfl, rfl, q _ _ (Res.same (.int _))⟩
  · cases e
theorem se_bitand {a b : Expr} {ma mb : M Opd} (ha : SE X W a ma) (hb : SE X W b mb) : SE X W (.BinOp a .BitAnd b pos) (eOp (g2 gAnd) [ma, mb]) := (pe_op opn_and ha hb).imp fun _ _ _ h => two_t h
/-! ### texts: the place of a sign -/
def gSIdx : List PyData → Option SV
  | [.str a, .str b] => match Builtin.Str.occurrences a b 0 a.length 1 with
    | i :: _ => some (.dat (.int (i : Nat)))
    | [] => none
  | _ => none
theorem bm_sindex : BM X "str.index" gSIdx := by
  intro pins s σ H x xs v us Q I rx rxs h
  obtain ⟨ds, sv, po, e, q⟩ := h
  unfold gSIdx at e
  split at e
  · cases po with | cons a t => cases t with | cons b t => cases t; exact (by
      split at e
      · rename_i i rest ho
        cases e
        cases a.str; cases b.str
        exact mt_sindex pins s σ H _ _ v us Q I rx rxs ⟨_, _, i, rest, rfl, rfl, ho, q _ _ (Res.same (.int _))⟩
      · cases e)
  · cases e
/-! ### list(range(n)), tuple(range(n)) -/
/-- range(n) as a list -/
def eLstRng (m : M Opd) : M Opd := bnd m fun o δ => match o.data δ with
  | some (.int j) => if 0 ≤ j ∧ j ≤ 16777216 then .ok (.val (.lst (rng 0 j))) δ else .bad
  | _ => .bad
theorem rng_all {K : PySem.W.Frag} {H : Hp} (a b : Int) : IsAll K H (rgV a b) (rng a b) := by
  unfold rgV rng
  generalize List.range (b - a).toNat = l
  induction l with
  | nil => exact .nil
  | cons i l ih => exact .cons (.int _) ih
theorem se_lstRng {x y : Str} {e : Expr} {m : M Opd} (hx : x = "list") (hy : y = "range") (hc : X.calm = true) (hg : Gl X x) (hm : X.mg x = none) (hg2 : Gl X y) (hm2 : X.mg y = none) (he : SE X W e m) (hp : plainE e = true) : SE X W (.Call (.Name x p) [.Call (.Name y p1) [e] [] p2] [] pos) (eLstRng m) := by
  subst hx hy
  refine (pe_listRg hc hg hm (prg_1 hg2 hm2 he (star_plain hp _ _)) (by rfl)).imp fun σ H Q h => ?_
  obtain ⟨H0, O0, T, δ, st, hm⟩ := h
  refine ⟨H0, O0, T, δ, st, ?_⟩
  unfold eLstRng bnd at hm
  cases e1 : m δ with
  | bad => simp only [e1] at hm
  | exn y δ1 => simp only [e1] at hm; exact hm
  | ok o δ1 =>
    simp only [e1] at hm
    intro v H1 ov st1
    cases e2 : o.data δ1 with
    | none => simp only [e2] at hm
    | some d =>
      cases d with
      | int j =>
        simp only [e2] at hm
        cases (opd_int ov st1 e2).int
        by_cases c : 0 ≤ j ∧ j ≤ 16777216
        · rw [if_pos c] at hm
          exact ⟨j, rfl, RgOk.of_le (by omega) (by omega) (by omega) (by omega), fun q hq => hm _ _ True.intro (st1.drop.res (Res.lst hq (rng_all 0 j)))⟩
        · rw [if_neg c] at hm; exact hm.elim
      | _ => simp only [e2] at hm
end
end Ev

/-! D42: places of ints in tuples and lists, pop at a place. -/
namespace Ev
open PySem PySem.Spec L2
open PyProof.Rows hiding St
variable [Tb]

/-- x.index(e), x the slot i, a tuple of ints whose object is known -/
def eTplIdx (i : Nat) (m : M Opd) : M Opd := fun δ => match at? δ i with
  | some (.tpl _) => bnd m (fun a => bnd (takeD a) fun d δ' => match at? δ' i, d with
      | some (.tpl ds), .int k => (match intsD ds with
        | some ns => if k ∈ ns then .ok (.val (.dat (.int (ns.idxOf k : Nat)))) δ' else .bad
        | none => .bad)
      | _, _ => .bad) δ
  | _ => .bad
/-- x.index(e), x the slot i, an own list of ints -/
def eLstIdx (i : Nat) (m : M Opd) : M Opd := fun δ => match (at? δ i).bind SV.data with
  | some (.list _) => bnd m (fun a => bnd (takeD a) fun d δ' => match (at? δ' i).bind SV.data, d with
      | some (.list ds), .int k => (match intsD ds with
        | some ns => if k ∈ ns ∧ ns.length ≤ sizeLine then .ok (.val (.dat (.int (ns.idxOf k : Nat)))) δ' else .bad
        | none => .bad)
      | _, _ => .bad) δ
  | _ => .bad
/-- x.pop(e), x the slot i, an own list -/
def eLstPopAt (i : Nat) (m : M Opd) : M Opd := fun δ => match at? δ i with
  | some (.lst _) => bnd m (fun a => bnd (takeD a) fun d δ' => match at? δ' i, d with
      | some (.lst ds), .int k => (match ds[k.toNat]? with
        | some y => if 0 ≤ k ∧ k < 1000000 then .ok (.val (.dat y)) (δ'.set i (some (.lst (ds.eraseIdx k.toNat)))) else .bad
        | none => .bad)
      | _, _ => .bad) δ
  | _ => .bad
theorem IsAll.erase {K : PySem.W.Frag} {H : Hp} : ∀ {vs : List V} {ds : List PyData} (n : Nat), IsAll K H vs ds → IsAll K H (vs.eraseIdx n) (ds.eraseIdx n)
  | _, _, _, .nil => .nil
  | _, _, 0, .cons _ t => t
  | _, _, n + 1, .cons a t => .cons a (IsAll.erase n t)
section
variable {X : Cx} {W : WX} {as : List Nat} {pos p p1 p2 p3 p4 apos cpos : Pos}
theorem mt_tidx : MtR X "tuple.index" (fun x xs H Q => ∃ (q : Addr) (ns : List Int) (k : Int), x = .ref q ∧ xs = [.int k] ∧ SqT X.K H q (ns.map V.int) ∧ k ∈ ns ∧ Q (.int (ns.idxOf k : Nat)) H) := by
  intro pins s σ H x xs v us Q I rx rs h
  obtain ⟨q, ns, k, rfl, rfl, hq, hk, hQ⟩ := h
  cases rx
  obtain ⟨u, rfl, ru⟩ := rs.one
  obtain ⟨t, rfl⟩ := ru
  obtain ⟨its, r, ht, hz⟩ := I.tuple hq
  exact PySem.SeqAt.tuple_index_ints ht (intsAre_of r) hk ⟨.int (ns.idxOf k : Nat), H, I.tok _, ⟨_, rfl⟩, hQ⟩
theorem mt_lidx : MtR X "list.index" (fun x xs H Q => ∃ (q : Addr) (ns : List Int) (k : Int), x = .ref q ∧ xs = [.int k] ∧ SqL X.K H q (ns.map V.int) ∧ ns.length ≤ sizeLine ∧ k ∈ ns ∧ Q (.int (ns.idxOf k : Nat)) H) := by
  intro pins s σ H x xs v us Q I rx rs h
  obtain ⟨q, ns, k, rfl, rfl, hq, hz, hk, hQ⟩ := h
  cases rx
  obtain ⟨u, rfl, ru⟩ := rs.one
  obtain ⟨t, rfl⟩ := ru
  obtain ⟨its, r, ht, _⟩ := I.list hq
  exact PySem.SeqAt.list_index_ints ht.isList (intsAre_of r) hz hk ⟨.int (ns.idxOf k : Nat), H, I.tok _, ⟨_, rfl⟩, hQ⟩
/-- the value is a tuple whose object is known -/
def KnT (x : V) (H : Hp) : Prop := ∃ q o xs, x = .ref q ∧ H q = some (.frz o (.tup xs)) ∧ o.dict = none
def tKM (r : V → List V → Hp → VK → Prop) (to : TE) (t : TA) : TE := fun σ H Q => to σ H fun x H1 => KnT x H1 ∧ t σ H1 fun xs H2 => r x xs H2 Q
theorem pe_km {o e : Expr} {es : List Expr} {to : TE} {t : TA} {name : Str} {id : String} {r : V → List V → Hp → VK → Prop} (pa : PlainAttrs "tuple") (slot : Slot "tuple" name id) (hty : typeOf (.builtin id) = pure (.type "method_descriptor")) (hm : MtR X id r) (ho : PE X o to) (ha : PA X (e :: es) t)
    (hbase : attributeBase o name X.env (eval o X.env) = eval o X.env)
    (hfew : ((backTo cpos (starEach (e :: es) X.env)).all (fun x => !x.1) && (backToKw cpos (keywordEach [] X.env)).all (fun x => x.1.isSome) && decide ((e :: es).length + ([] : List Keyword).length + (if ([] : List Keyword).isEmpty then 0 else 1) < 30)) = true)
    (hline : (apos.endLine == cpos.line) = true) (hs : starEach (e :: es) X.env = (false, eval e X.env) :: starEach es X.env) (hplain : (backTo cpos (starEach es X.env)).any (·.1) = false) :
    PE X (.Call (.Attribute o name apos) (e :: es) [] cpos) (tKM r to t) := by
  refine ⟨fun pins s σ H Q I h => ?_⟩
  refine wpAny_Call_method_late hbase hfew hline rfl (thn (ho.run pins s σ H _ I h) fun v s1 ⟨x, H1, I1, r1, ty, q1⟩ => ?_)
  obtain ⟨q, ob, xs, rfl, hq, hd⟩ := ty
  cases r1
  obtain ⟨e1, hz, its, rv, ht⟩ := I1.hok q _ hq
  have h2 : ∀ a, Value.ref q = .ref a → ∃ ob, s1.heap.get? a = some ob ∧ ob.dict = none := fun a e => by cases e; exact ⟨ob, e1, hd⟩
  refine ⟨"tuple", id, pa, slot, hty, ht.typeIs, h2, ?_⟩
  have hA := ha.run cpos pins s1 σ H1 _ I1 q1
  rw [hs] at hA ⊢
  refine Calls.callWith_builtin (by show (false || (backTo cpos (starEach es X.env)).any (·.1)) = false; rw [hplain]; rfl) (Calls.evalArgs_plain (thn hA fun us s2 ⟨vs, H2, I2, r2, q2⟩ => hm pins s2 σ H2 (.ref q) vs (.ref q) us Q I2 rfl r2 q2))
theorem se_tplIdx {i : Nat} {x : Str} {e : Expr} {m : M Opd} (hN : X.N[i]? = some x) (hv : Vis X.env.scope x) (hd : (x == ("__debug__" : Str)) = false) (hcd : (x == ("__classdict__" : Str)) = false) (hp : plainE e = true) (he : SE X W e m)
    (hbase : attributeBase (.Name x p) "index" X.env (eval (.Name x p) X.env) = eval (.Name x p) X.env)
    (hfew : ((backTo cpos (starEach (e :: []) X.env)).all (fun x => !x.1) && (backToKw cpos (keywordEach [] X.env)).all (fun x => x.1.isSome) && decide ((e :: []).length + ([] : List Keyword).length + (if ([] : List Keyword).isEmpty then 0 else 1) < 30)) = true)
    (hline : (apos.endLine == cpos.line) = true) : SE X W (.Call (.Attribute (.Name x p) "index" apos) [e] [] cpos) (eTplIdx i m) :=
  (pe_km PySem.F.plainAttrs_tuple PySem.F.slot_tuple_index PySem.F.type_tuple_index mt_tidx (pe_var hN hv hd hcd) (pa_cons he pa_nil (star_plain hp _ _)).gh hbase hfew hline (star_plain hp _ _) (by rfl)).imp fun σ H Q h => by
    obtain ⟨H0, O0, T, δ, st, hm⟩ := h
    unfold eTplIdx at hm
    cases e0 : at? δ i with
    | none => simp only [e0] at hm
    | some sv =>
      simp only [e0] at hm
      cases sv with
      | tpl ds0 =>
        simp only at hm
        obtain ⟨v, ev, o, en⟩ := st.slot e0
        cases en with
        | @tpl l ob xs _ h1 h2 t1 =>
          refine ⟨_, ev, ⟨l, ob, xs, rfl, h1, h2⟩, H0, O0, T, δ, st, ?_⟩
          unfold bnd at hm
          cases e1 : m δ with
          | bad => simp only [e1] at hm
          | exn y δ1 => simp only [e1] at hm; exact hm
          | ok o δ1 =>
            simp only [e1] at hm
            intro w H1 ov st1
            cases e2 : takeD o δ1 with
            | bad => simp only [e2] at hm
            | exn y δ2 => exact absurd e2 takeD_noexn
            | ok d δ2 =>
              simp only [e2] at hm
              refine takeD_gh ov st1 e2 fun H2 _ st2 iw => ?_
              cases e3 : at? δ2 i with
              | none => simp only [e3] at hm
              | some sv2 =>
                cases sv2 with
                | tpl ds =>
                  cases d with
                  | int k =>
                    simp only [e3] at hm
                    obtain ⟨v', ev', o', en'⟩ := st2.slot e3
                    have q : v' = .ref l := by rw [ev] at ev'; cases ev'; rfl
                    subst q
                    cases en' with
                    | tpl k1 k2 k3 =>
                      cases iw
                      cases e4 : intsD ds with
                      | none => simp only [e4] at hm
                      | some ns =>
                        simp only [e4] at hm
                        by_cases c : k ∈ ns
                        · simp only [if_pos c] at hm
                          rw [ints_vs k3 e4] at k1
                          exact ⟨l, ns, k, rfl, rfl, .inl (.inr ⟨_, k1⟩), c, hm _ _ True.intro (st2.res (Res.same (.int _)))⟩
                        · simp only [if_neg c] at hm
                  | _ => simp only [e3] at hm
                | _ => simp only [e3] at hm
      | _ => exact hm.elim
theorem se_lstIdx {i : Nat} {x : Str} {e : Expr} {m : M Opd} (hN : X.N[i]? = some x) (hv : Vis X.env.scope x) (hd : (x == ("__debug__" : Str)) = false) (hcd : (x == ("__classdict__" : Str)) = false) (hp : plainE e = true) (he : SE X W e m)
    (hbase : attributeBase (.Name x p) "index" X.env (eval (.Name x p) X.env) = eval (.Name x p) X.env)
    (hfew : ((backTo cpos (starEach (e :: []) X.env)).all (fun x => !x.1) && (backToKw cpos (keywordEach [] X.env)).all (fun x => x.1.isSome) && decide ((e :: []).length + ([] : List Keyword).length + (if ([] : List Keyword).isEmpty then 0 else 1) < 30)) = true)
    (hline : (apos.endLine == cpos.line) = true) : SE X W (.Call (.Attribute (.Name x p) "index" apos) [e] [] cpos) (eLstIdx i m) :=
  (pe_bm PySem.F.plainAttrs_list PySem.F.slot_list_index PySem.F.type_list_index mt_lidx (pe_var hN hv hd hcd) (pa_cons he pa_nil (star_plain hp _ _)).gh hbase hfew hline (star_plain hp _ _) (by rfl)).imp fun σ H Q h => by
    obtain ⟨H0, O0, T, δ, st, hm⟩ := h
    unfold eLstIdx at hm
    cases e0 : (at? δ i).bind SV.data with
    | none => simp only [e0] at hm
    | some d0 =>
      cases d0 with
      | list ds0 =>
        simp only [e0] at hm
        obtain ⟨sv, f1, f2⟩ := Option.bind_eq_some_iff.mp e0
        obtain ⟨v, ev, o, en⟩ := st.slot f1
        obtain ⟨l, vs0, rfl, h1, t1⟩ := (en.opn f2).sql
        refine ⟨_, ev, .inl ⟨rfl, _, h1⟩, H0, O0, T, δ, st, ?_⟩
        unfold bnd at hm
        cases e1 : m δ with
        | bad => simp only [e1] at hm
        | exn y δ1 => simp only [e1] at hm; exact hm
        | ok o δ1 =>
          simp only [e1] at hm
          intro w H1 ov st1
          cases e2 : takeD o δ1 with
          | bad => simp only [e2] at hm
          | exn y δ2 => exact absurd e2 takeD_noexn
          | ok d δ2 =>
            simp only [e2] at hm
            refine takeD_gh ov st1 e2 fun H2 _ st2 iw => ?_
            cases e3 : (at? δ2 i).bind SV.data with
            | none => simp only [e3] at hm
            | some d3 =>
              cases d3 with
              | list ds =>
                cases d with
                | int k =>
                  simp only [e3] at hm
                  obtain ⟨sv2, g1, g2⟩ := Option.bind_eq_some_iff.mp e3
                  obtain ⟨v', ev', o', en'⟩ := st2.slot g1
                  have q : v' = .ref l := by rw [ev] at ev'; cases ev'; rfl
                  subst q
                  obtain ⟨l2, vs, el, k1, k3⟩ := (en'.opn g2).sql
                  cases el
                  cases iw
                  cases e4 : intsD ds with
                  | none => simp only [e4] at hm
                  | some ns =>
                    simp only [e4] at hm
                    by_cases c : k ∈ ns ∧ ns.length ≤ sizeLine
                    · simp only [if_pos c] at hm
                      rw [ints_vs k3 e4] at k1
                      exact ⟨l, ns, k, rfl, rfl, k1, c.2, c.1, hm _ _ True.intro (st2.res (Res.same (.int _)))⟩
                    · simp only [if_neg c] at hm
                | _ => simp only [e3] at hm
              | _ => simp only [e3] at hm
      | _ => simp only [e0] at hm
theorem se_lstPopAt {i : Nat} {x : Str} {e : Expr} {m : M Opd} (hN : X.N[i]? = some x) (hv : Vis X.env.scope x) (hd : (x == ("__debug__" : Str)) = false) (hcd : (x == ("__classdict__" : Str)) = false) (hp : plainE e = true) (he : SE X W e m)
    (hbase : attributeBase (.Name x p) "pop" X.env (eval (.Name x p) X.env) = eval (.Name x p) X.env)
    (hfew : ((backTo cpos (starEach (e :: []) X.env)).all (fun x => !x.1) && (backToKw cpos (keywordEach [] X.env)).all (fun x => x.1.isSome) && decide ((e :: []).length + ([] : List Keyword).length + (if ([] : List Keyword).isEmpty then 0 else 1) < 30)) = true)
    (hline : (apos.endLine == cpos.line) = true) : SE X W (.Call (.Attribute (.Name x p) "pop" apos) [e] [] cpos) (eLstPopAt i m) :=
  (pe_bm PySem.F.plainAttrs_list PySem.F.slot_list_pop PySem.F.type_list_pop mt_popAt (pe_var hN hv hd hcd) (pa_cons he pa_nil (star_plain hp _ _)).gh hbase hfew hline (star_plain hp _ _) (by rfl)).imp fun σ H Q h => by
    obtain ⟨H0, O0, T, δ, st, hm⟩ := h
    unfold eLstPopAt at hm
    cases e0 : at? δ i with
    | none => simp only [e0] at hm
    | some sv =>
      simp only [e0] at hm
      cases sv with
      | lst ds0 =>
        simp only at hm
        obtain ⟨v, ev, o, en⟩ := st.slot e0
        cases en with
        | @lst l vs0 _ h1 t1 =>
          refine ⟨_, ev, .inl ⟨rfl, _, .inl (.inl h1)⟩, H0, O0, T, δ, st, ?_⟩
          unfold bnd at hm
          cases e1 : m δ with
          | bad => simp only [e1] at hm
          | exn y δ1 => simp only [e1] at hm; exact hm
          | ok o δ1 =>
            simp only [e1] at hm
            intro w H1 ov st1
            cases e2 : takeD o δ1 with
            | bad => simp only [e2] at hm
            | exn y δ2 => exact absurd e2 takeD_noexn
            | ok d δ2 =>
              simp only [e2] at hm
              refine takeD_gh ov st1 e2 fun H2 _ st2 iw => ?_
              cases e3 : at? δ2 i with
              | none => simp only [e3] at hm
              | some sv2 =>
                cases sv2 with
                | lst ds =>
                  cases d with
                  | int k =>
                    simp only [e3] at hm
                    obtain ⟨v', ev', o', en'⟩ := st2.slot e3
                    have q : v' = .ref l := by rw [ev] at ev'; cases ev'; rfl
                    subst q
                    cases en' with
                    | @lst _ vs _ k1 k3 =>
                      cases iw
                      cases e4 : ds[k.toNat]? with
                      | none => simp only [e4] at hm
                      | some y =>
                        simp only [e4] at hm
                        by_cases c : 0 ≤ k ∧ k < 1000000
                        · simp only [if_pos c] at hm
                          obtain ⟨w, hw, iy⟩ := k3.get e4
                          have hlt : k.toNat < vs.length := (List.getElem?_eq_some_iff.mp hw).1
                          have sy : Stays H2 (upd H2 l (.lst (vs.eraseIdx k.toNat))) := (Kp.at (O := [l]) (by simp)).stays fun b hb => by simp at hb; subst hb; exact ⟨_, k1, by simp, by simp, by simp, fixed_lst⟩
                          refine ⟨l, vs, k, k.toNat, w, rfl, rfl, k1, by omega, by omega, (ixN_seq (by unfold ixN; rw [if_pos c.1, if_pos (by omega)])).1, hw, ?_⟩
                          refine hm _ _ True.intro (Ste.res ?_ (Res.same (iy.stays sy)))
                          refine st2.swapSlot e3 ev fun oc en nd => ?_
                          cases en with
                          | @lst _ vs' _ h3 t3 =>
                            have q : vs' = vs := by rw [k1] at h3; cases h3; rfl
                            subst q
                            exact ⟨[l], .lst upd_same ((t3.erase k.toNat).stays sy), by simp, fun a ha => .inl (by simpa using ha), Kp.at (by simp)⟩
                        · simp only [if_neg c] at hm
                  | _ => simp only [e3] at hm
                | _ => simp only [e3] at hm
      | _ => exact hm.elim
end
end Ev

/-! X1: an own exception over LookupError whose __init__ says super().__init__(x); self.x = x. -/
namespace PySem
namespace HandSPX
open Builtin Builtin.ObjectAttr
section
variable {prog : Program} {w : World} {A : Around} {R : Result → Shared → Prop} {hp : Heap} {g : Array GenState} {d : Drawn} {t : Nat} {os : OsState}
/-- own classes, then LookupError's -/
def refsLE : List Value → Bool
  | .ref _ :: rest => refsLE rest
  | rest => rest == [.type "LookupError", .type "Exception", .type "BaseException", .type "object"]
theorem refsLE_split : ∀ {zs : List Value}, refsLE zs = true → ∃ cs : List Addr, zs = cs.map Value.ref ++ [.type "LookupError", .type "Exception", .type "BaseException", .type "object"]
  | [], h => by cases h
  | .ref c :: rest, h => by
    obtain ⟨cs, rfl⟩ := refsLE_split (zs := rest) h
    exact ⟨c :: cs, rfl⟩
  | .none :: _, h => ⟨[], beq_iff_eq.mp h⟩
  | .ellipsis :: _, h => ⟨[], beq_iff_eq.mp h⟩
  | .notImplemented :: _, h => ⟨[], beq_iff_eq.mp h⟩
  | .bool _ :: _, h => ⟨[], beq_iff_eq.mp h⟩
  | .int _ _ :: _, h => ⟨[], beq_iff_eq.mp h⟩
  | .float _ _ :: _, h => ⟨[], beq_iff_eq.mp h⟩
  | .str _ _ :: _, h => ⟨[], beq_iff_eq.mp h⟩
  | .bytes _ _ :: _, h => ⟨[], beq_iff_eq.mp h⟩
  | .type _ :: _, h => ⟨[], beq_iff_eq.mp h⟩
  | .builtin _ :: _, h => ⟨[], beq_iff_eq.mp h⟩
theorem refsLE_goes (me : Value) (cs : List Addr) : refuseLoop me "__setattr__" (cs.map Value.ref ++ [.type "LookupError", .type "Exception", .type "BaseException", .type "object"]) = pure () := by
  induction cs with
  | nil => exact F.store_LookupError.passes me
  | cons c cs ih => rw [List.map_cons, List.cons_append, refuseLoop_ref]; exact ih
theorem exc_osaL {K : W.Frag} {F : Str} {tk : Tok} {v : Value} {e C : Addr} {fv : Array Value} {cl : ClassData}
    (X : K.In hp) (he : hp.get? e = some { cls := .ref C, data := .fields fv }) (hcl : W.clsIn K C = some cl) (hmr : refsLE cl.mro = true) (hdi : cl.hasDict = true) (hno : W.findIn K (.ref C) F = some none)
    (hq : ∀ h1 tk1 q, (∀ b o, b ≠ e → hp.get? b = some o → h1.get? b = some o) → hp.objs.size ≤ q → q ≠ e → h1.get? e = some { cls := .ref C, dict := some q, data := .fields fv } →
      h1.Ns1 q (fun y => if y = F then some v else none) → R (.ok (.ret .none)) ⟨h1, g, d, tk1, os⟩) :
    codeAny (model prog w) A (.call (.builtin "object.__setattr__") ⟨[.ref e, .str F tk, v], []⟩) R ⟨hp, g, d, t, os⟩ := by
  obtain ⟨cs, em⟩ := refsLE_split hmr
  have ne : cl.mro.isEmpty = false := by rw [em]; cases cs <;> rfl
  have ob : cl.mro.contains (.type "object") = true := by
    rw [em]
    simp
  have I : W.InstAt hp e { cls := .ref C, data := .fields fv } C none := ⟨he, rfl, rfl, trivial⟩
  have ST := PySem.F.store_object
  have far : e ≠ hp.objs.size := Nat.ne_of_lt (Heap.lt_size he)
  have isO : W.Looks (model prog w) hp (isInstance (.ref e) (.type "object")) true := I.type.andThen (W.looks_mroIn X (by unfold W.mroIn; rw [hcl, Option.bind_some, if_neg (by rw [ne]; decide), ob]))
  refine codeAny_call_builtin ST.slot.plain ST.entry (@W.check_slot (model prog w) _ _ ⟨hp, g, d, t, os⟩ "object.__setattr__" "object" "__setattr__" (.ref e) [.str F tk, v] [] _ ST.kind ST.split isO (ST.args (.ref e) (.str F tk) v) ?_)
  have lm : W.Looks (model prog w) hp (mroOf (.ref C)) cl.mro := (W.looks_clsIn X hcl).andThen .now
  have l3 : W.Looks (model prog w) hp (storeTaker? none) none := .now
  have lc : W.Looks (model prog w) hp (classData C) cl := W.looks_clsIn X hcl
  rw [W.osa_eq, refuse_eq]
  refine wpAny_bind (wpAny_bind (I.type.at (wpAny_bind (lm.at ?_))))
  rw [em, refsLE_goes]
  refine wpAny_pure (wpAny_bind (I.type.at (wpAny_bind ((W.looks_findIn X hno).at (wpAny_bind (l3.at ?_))))))
  show wpAny _ _ (storeInOwnDict (.ref e) (.ref C) (.str F tk) F v false) _ _ _
  clear em
  obtain ⟨c1, c2, c3, c4, c5, hd, c7, c8, c9, c10, c11⟩ := cl
  dsimp only at hdi
  subst hdi
  unfold storeInOwnDict ownDictForStores
  repeat (first | with_reducible refine store_in_new ?_ ?_ | with_reducible refine wpAny_loadPart_at he ?_ | with_reducible refine lc.at ?_ | wp_step)
  · exact ⟨_, #[], _, (Heap.get?_update_ne _ _ _ _ far.symm).trans (Heap.get?_push_at rfl rfl), rfl, fun u hu => absurd hu (by simp), fun _ => rfl⟩
  · intro h1 tk1 ns1 sb
    have he1 : (hp.push { cls := .type "dict", data := .dict #[] }).get? e = some { cls := .ref C, data := .fields fv } := Heap.get?_push_of_some _ he
    refine hq h1 tk1 hp.objs.size (fun b o hb ho => ?_) (Nat.le_refl _) far.symm ?_ ns1
    · exact (sb.2 b (Nat.ne_of_lt (Heap.lt_size ho))).trans ((Heap.get?_update_ne _ _ _ _ hb).trans (Heap.get?_push_of_some _ ho))
    · exact (sb.2 e far).trans (Heap.get?_update_self _ he1 rfl)
end
end HandSPX
end PySem
namespace Ev
open PySem PySem.Spec PySem.W PySem.Calls PySem.HandSPX
open PyProof.Rows hiding St
variable [Tb]

abbrev leB : List Value := [.type "LookupError", .type "Exception", .type "BaseException", .type "object"]
structure ExTL (prog : Program) (F : Str) (K : Frag) (C fI cc cda : Addr) : Prop where
  ini : excInitIn K C leB "LookupError.__new__" = true
  find : findIn K (.ref C) "__init__" = some (some (.ref fI))
  isf : isFn K (.ref fI) = true
  fn : ExI F K fI cc cda
  code : ∃ (ccl : Value) (cdd : Option Addr) (vs : Array Value) (ccs : Array (Option Value)) (file : Str) (tf : Tok), K.lookup cda = some ⟨ccl, cdd, .fields vs, ccs⟩ ∧ vs[2]? = some (.str file tf) ∧ ((prog.main.file : Str) == file) = true
  cell : ∃ (cl : Value) (cld : Option Addr) (csl : Array (Option Value)), K.lookup cc = some ⟨cl, cld, .cell (some (.ref C)), csl⟩
  cls : ∃ cd, clsIn K C = some cd ∧ refsLE cd.mro = true ∧ cd.hasDict = true
  sub : mroIn K C (.ref C) = some true
  top : (prog.main.scope.names.lookup ("super" : Str)).isSome = false
  opq : nsIn K cStatics "thirdparty.any" = some none
  alg : ks_superIn K C C "__init__" = some (some (.builtin "LookupError.__init__"))
  base : subIn K (.ref C) (.type "LookupError") = some true
  sa : findIn K (.ref C) "__setattr__" = some (some (.builtin "object.__setattr__"))
  noF : findIn K (.ref C) F = some none
  fs : F ≠ "self" ∧ (F == ("__debug__" : Str)) = false

section
variable {prog : Program} {w : World} {A : Around} {R : Result → Shared → Prop} {s : Shared} {K : Frag} {mg mb : Str → Option Value} {F : Str} {C fI cc cda : Addr}
theorem ex_initL (T : ExTL prog F K C fI cc cda) {hp : Heap} {g : Array GenState} {d : Drawn} {tk : Nat} {os : OsState} {e t : Addr} {v : Value} {h0 : Heap} (X : K.In hp) (G : hp.Ns mainGlobals mg) (hsup : mg "super" = none) (B : hp.Ns builtinsNs mb) (hb : ∀ x : Str, x ≠ "__name__" → mb x = bootBuiltins x)
    (lim : hp.NoLimit) (k0 : ∀ b o, hp.get? b = some o → h0.get? b = some o) (he : h0.get? e = some (excObj C t none .none)) (ne : hp.get? e = none) (hsz : hp.objs.size ≤ h0.objs.size) (room : A.depth < recursionLimit)
    (hq : ∀ h' tk' dx t', (∀ b o, hp.get? b = some o → h'.get? b = some o) → h'.get? e = some (excObj C t' (some dx) .none) → h0.objs.size ≤ dx → dx ≠ e → h'.Ns1 dx (fun y => if y = F then some v else none) → R (.ok (.ret .none)) ⟨h', g, d, tk', os⟩) :
    codeAny (model prog w) A (.call (.ref fI) ⟨[.ref e, v], []⟩) R ⟨h0, g, d, tk, os⟩ := by
  obtain ⟨qual, params, scope, kV, doc, pm, an, ct, oc, od, osl, ar, k, p0, p1, p2, p3, p4, p5, p6, p7, p8, p9, lk, hcd, har, hself, hbind, s1, s2, s3, s4, s5, s6, s7, s8, hline⟩ := T.fn.ex
  obtain ⟨ccl, cdd, vs, ccs, file, tf, lc, hvs, hfile⟩ := T.code
  obtain ⟨cl, cld, csl, lcell⟩ := T.cell
  obtain ⟨cd, hcls, hve, hdict⟩ := T.cls
  have X0 : K.In h0 := X.keeps k0
  obtain ⟨fs1, fs2⟩ := T.fs
  refine ks_codeAny_call_defAt (fd := ksFn "__init__" qual params _ scope .none kV doc pm an (.ref cda) ct cc) (binds := [("self", .ref e), (F, v)]) room (X0 _ _ lk) rfl (lim.keeps k0) (codeRec_of X0 hcd) rfl (hbind _ _ _) s4 (fun x hx => ?_) (fun h₁ hns hk₁ => ?_) s2 s3 s1
  · simp at hx
    rcases hx with rfl | rfl
    · exact s5
    · exact s6
  · have L0 : h0.objs.size ≠ e := Nat.ne_of_gt (Heap.lt_size he)
    have F1 : Fr hp h0.objs.size h₁ (fun y => [((("self" : Str)), Value.ref e), (F, v)].reverse.lookup y) := ⟨hns, fun b o q => hk₁ b o (k0 b o q), hsz⟩
    have N1 : News hp h0.objs.size h₁ [(e, excObj C t none .none)] := fun p hp' => by
      simp at hp'
      subst hp'
      exact ⟨hk₁ _ _ he, L0.symm, ne⟩
    show _root_.PySem.wpAt _ _ _ (execs _ (ksEnv qual scope h0.objs.size fI (.ref cda) cc)) _ _ _
    have hi : interactive (ksEnv qual scope h0.objs.size fI (.ref cda) cc) = false := by
      unfold interactive
      show (scope.kind == .module && _) = false
      rw [s1]; rfl
    refine ks_wpAt_execs_cons (ks_wpAt_Expr_any ?_ hi rfl)
    refine ks_wpAt_MethodCall (pl := L2.plainOf (.Call (.Name "super" p0) [] [] p1) (ksEnv qual scope h0.objs.size fI (.ref cda) cc)) ?_ ?he
    case he =>
      rw [arm_eval_Call]
      congr 1
      funext ov
      congr 1
      funext _
      exact L2.mcall_line rfl hline
    have X1 : K.In h₁ := X.keeps F1.keep
    obtain ⟨oD, hD1, hD2⟩ : ∃ oD, h₁.get? C = some oD ∧ oD.data = .cls cd := by
      unfold clsIn at hcls
      split at hcls
      · rename_i c d cd' sl ho
        cases hcls
        exact ⟨_, X1 _ _ ho, rfl⟩
      · cases hcls
    have I1 : InstAt h₁ e (excObj C t none .none) C none := ⟨hk₁ _ _ he, rfl, rfl, trivial⟩
    refine ks_wpAt_super_base (env := ksEnv qual scope h0.objs.size fI (.ref cda) cc) s8 s7 (by decide) rfl (X1 _ _ lk) rfl har rfl (X1 _ _ lc) rfl hvs hfile T.top ?_
    refine ks_loadName_global s1 s8 (loadGlobal_builtin (env := ksEnv qual scope h0.objs.size fI (.ref cda) cc) (G.keeps F1.keep) hsup (B.keeps F1.keep) ((hb _ (by decide +kernel)).trans (by kernel_rfl : bootBuiltins "super" = some (.type "super"))) ⟨rfl, ?_⟩)
    refine wpAny_loadName_free s1 s7 rfl ⟨_, X1 _ _ lcell, rfl⟩ ?_
    rw [hself]
    refine wpAny_loadName_local s1 s5 F1.ns (look_self fs1) ?_
    refine ks_wpAny_isType_cls hD1 hD2 ⟨rfl, ?_⟩
    refine ks_wpAny_call_super hD1 hD2 I1.at_ I1.cls (fun c q => by cases q) (looks_mroIn X1 T.sub) (fun h2 hso k2 => ?_)
    obtain ⟨F2, N2, l2⟩ := ks_newsPush (s := ⟨h₁, g, d, tk + 2, os⟩) F1 N1 rfl hso k2
    have I2 : InstAt h2 e (excObj C t none .none) C none := ⟨k2 _ _ I1.at_, rfl, rfl, trivial⟩
    refine kxs_method (s := ⟨h2, g, d, _, os⟩) kxs_LookupError F2 X N2 List.mem_cons_self I2 T.opq T.alg T.base (by decide) (fun q h3 F3 N3 l3 => ?_)
    refine kxs_callWith1 (x := e) (u := q) N3 List.mem_cons_self ?_
    refine Calls.spliced_cons (ESX.ldL (m := _) F3.ns look_F (Calls.spliced_nil ⟨kxs_at N3 List.mem_cons_self, ?_⟩) s1 s6 fs2)
    have q1 : e < q := l3 (e, excObj C t none .none) (by simp)
    have q2 : e < h₁.objs.size := l2 (e, excObj C t none .none) (by simp)
    refine kxs_call (t := t) (dv := none) (c2 := .none) (nw := fun o => [(q, kxs_mw "LookupError.__init__" e), (h₁.objs.size, ks_superObj C e C), (e, o)]) F3 X N3 PySem.F.excBase_LookupError T.ini List.mem_cons_self (.tail (Nat.ne_of_gt q1) (.tail (Nat.ne_of_gt q2) (.head (fun _ z => by cases z)))) (by show 1 ≤ sizeLine; rw [sizeLine_eq]; omega) (fun t' h4 F4 N4 l4 => ?_)
    have e4 : h4.get? e = some (excO C t') := (N4 (e, excObj C t' none .none) (by simp)).1
    have X4 : K.In h4 := X.keeps F4.keep
    show _root_.PySem.wpAt _ _ _ (execs _ (ksEnv qual scope h0.objs.size fI (.ref cda) cc)) _ _ _
    refine wpAt_of_wpAny (wpAny_execs_cons (plainObj_wpAny_Assign_Attribute ?_))
    refine ESX.ldL F4.ns look_F (ESX.ldL F4.ns (look_self fs1) ?_ s1 s5 (by decide)) s1 s6 fs2
    refine set_plain X4 (ox := excO C t') (od := none) ⟨e4, rfl, rfl, trivial⟩ T.sa ?_
    refine exc_osaL X4 e4 hcls hve hdict T.noF (fun h5 tk5 dx k5 dn dne hx5 hn5 => ?_)
    show wpAny _ _ (execs _ _) _ _ _
    refine wpAny_execs_nil (hq h5 _ dx t' (fun b o q => k5 b o (fun z => by rw [z, ne] at q; cases q) (F4.keep b o q)) hx5 (Nat.le_trans (Nat.le_of_lt F4.ns.lt) dn) dne hn5)
theorem ex_madeL (T : ExTL prog F K C fI cc cda) {v : Value} (X : K.In s.heap) (G : s.heap.Ns mainGlobals mg) (hsup : mg "super" = none) (B : s.heap.Ns builtinsNs mb) (hb : ∀ x : Str, x ≠ "__name__" → mb x = bootBuiltins x) (lim : s.heap.NoLimit) (room : A.depth + 1 < recursionLimit)
    (hq : ∀ h' tk e d, ExMade s.heap h' e C d F v → R (.ok (.ret (.ref e))) { s with heap := h', toks := tk }) : codeAny (model prog w) A (.call (.ref C) ⟨[v], []⟩) R s := by
  obtain ⟨hp, g, dr, tk, os⟩ := s
  obtain ⟨nm, N', qn, bs, bm, hdct, sn, sub, ab, col, dd, k0, k1, k2, k3, k5, hC, hT⟩ := excInit_of X T.ini
  obtain ⟨oI, hoI, hcI⟩ : ∃ oI, hp.get? fI = some oI ∧ oI.cls = .type "function" := by
    obtain ⟨o, ho, hc⟩ := Option.map_eq_some_iff.mp (show (K.lookup fI).map (·.cls) = some (.type "function") from beq_iff_eq.mp T.isf)
    exact ⟨o, X _ _ ho, hc⟩
  have k : ∀ b o, hp.get? b = some o → ((hp.push (kdv_tup [v])).push (excO C hp.objs.size)).get? b = some o := fun b o e => Heap.get?_push_of_some _ (Heap.get?_push_of_some _ e)
  have hget : ((hp.push (kdv_tup [v])).push (excO C hp.objs.size)).get? (hp.objs.size + 1) = some (excO C hp.objs.size) := by heap_get
  have ne : hp.get? (hp.objs.size + 1) = none := by
    cases z : hp.get? (hp.objs.size + 1) with
    | none => rfl
    | some o => exact absurd (Nat.lt_of_succ_lt (Heap.lt_size z)) (Nat.lt_irrefl _)
  refine PySem.HandSPX.call_own PySem.F.excBase_LookupError hT hC (looks_findIn X T.find) (fun self => exc_bind hoI hcI self) (by show 1 ≤ sizeLine; rw [sizeLine_eq]; omega) ?_
  refine ex_initL (h0 := (hp.push (kdv_tup [v])).push (excO C hp.objs.size)) T X G hsup B hb lim k hget ne ?_ ?_ fun h' tk' dx t' k' he hdx hne hns => ?_
  · rw [Heap.size_push, Heap.size_push]; exact Nat.le_trans (Nat.le_succ _) (Nat.le_succ _)
  · exact room
  · refine ⟨rfl, hq h' tk' _ dx ⟨k', Nat.le_succ _, ⟨t', he⟩, ?_, hne, hns⟩⟩
    rw [Heap.size_push, Heap.size_push] at hdx
    exact Nat.le_trans (Nat.le_trans (Nat.le_succ _) (Nat.le_succ _)) hdx
end
end Ev

/-! X2: own exceptions made as values. -/
namespace Ev
open PySem PySem.Spec L2
open PyProof.Rows hiding St
variable [Tb]

/-- a class whose __init__ keeps its one argument under the name F -/
structure MkX (prog : Program) (K : PySem.W.Frag) (mg : Str → Option Value) (F : Str) (C : Addr) : Prop where
  run : ∀ {w : World} {A : Around} {R : Result → Shared → Prop} {s : Shared} {v : Value} {mb : Str → Option Value}, K.In s.heap → s.heap.Ns mainGlobals mg → mg "super" = none → s.heap.Ns builtinsNs mb → (∀ x : Str, x ≠ "__name__" → mb x = bootBuiltins x) → s.heap.NoLimit → A.depth + 1 < recursionLimit →
    (∀ h' tk e d, ExMade s.heap h' e C d F v → R (.ok (.ret (.ref e))) { s with heap := h', toks := tk }) → codeAny (model prog w) A (.call (.ref C) ⟨[v], []⟩) R s
theorem mkX_v {prog : Program} {K : PySem.W.Frag} {mg : Str → Option Value} {F : Str} {C fI cc cda : Addr} (T : ExT prog F K C fI cc cda) : MkX prog K mg F C := ⟨fun X G hs B hb lim room hq => ex_made T X G hs B hb lim room hq⟩
theorem mkX_l {prog : Program} {K : PySem.W.Frag} {mg : Str → Option Value} {F : Str} {C fI cc cda : Addr} (T : ExTL prog F K C fI cc cda) : MkX prog K mg F C := ⟨fun X G hs B hb lim room hq => ex_madeL T X G hs B hb lim room hq⟩
/-- made with one argument -/
structure ExV (prog : Program) (K : PySem.W.Frag) (mg : Str → Option Value) (x F : Str) : Prop where
  ex : ∃ C, MkX prog K mg F C ∧ mg x = some (.ref C) ∧ PySem.W.nsIn K mainGlobals x = some (some (.ref C)) ∧ PySem.W.keepIn K (.ref C) = true
/-- made without one -/
structure ExW (K : PySem.W.Frag) (mg : Str → Option Value) (x : Str) : Prop where
  ex : ∃ C, PySem.W.excIn K C veB "ValueError.__new__" = true ∧ mg x = some (.ref C) ∧ PySem.W.nsIn K mainGlobals x = some (some (.ref C)) ∧ PySem.W.keepIn K (.ref C) = true
def eXmk (x F : Str) (m : M Opd) : M Opd := bnd m fun o => bnd (takeD o) fun d δ => .ok (.val (.dat (xD x [(F, d)]))) δ
def eXmk0 (x : Str) : M Opd := fun δ => .ok (.val (.dat (xD x []))) δ
section
variable {X : Cx} {pins : List (Addr × Obj)} {σ : St} {H : Hp} {hp h' : Heap} {g : Array GenState} {dr : Drawn} {tk tk' : Nat} {os : OsState} {e d C : Addr} {F : Str} {v : V} {vv : Value}
theorem xo_ok {P : Program} {w : World} {H : Hp} {h : Heap} {a : Addr} {oe : Obj} (q : h.get? a = some oe) : ObjOk P w H h a (XO a oe) := ⟨q, q, ⟨oe, q⟩, fun _ _ z k => k _ z⟩
theorem lay2 (I : Inv X pins σ H ⟨hp, g, dr, tk, os⟩) (M : ExMade hp h' e C d F vv) (rv : RelV v vv) : ∃ od t, Inv X pins σ (upd (upd H d (.frz od (.xd [(F, v)]))) e (XO e (xObj C t (some d)))) ⟨h', g, dr, tk', os⟩ ∧ H d = none ∧ H e = none ∧ e ≠ d := by
  obtain ⟨t, hoe⟩ := M.obj
  obtain ⟨G', g1, g2⟩ := restrict h' fun b => decide (b ≠ e)
  have gk : ∀ b, b ≠ e → G'.get? b = h'.get? b := fun b hb => g1 b (decide_eq_true hb)
  have ge : G'.get? e = none := g2 e (by simp)
  have old : ∀ b o, hp.get? b = some o → G'.get? b = some o := fun b o q => (gk b (Nat.ne_of_lt (Nat.lt_of_lt_of_le (Heap.lt_size q) M.new))).trans (M.keep b o q)
  have nd : H d = none := I.hok.fresh M.dbig
  have ne : H e = none := I.hok.fresh M.new
  have ob0 : ∀ H' : Hp, ObjOk X.prog X.w H' G' d (.xd [(F, v)]) := fun H' => ⟨_, M.ns.at (fun o q => (gk d M.dne).trans q), fun f => relO_one rv f⟩
  obtain ⟨_, ⟨od, _, _, hod, _⟩, _⟩ := ob0 H
  have J : Inv X pins σ (upd H d (.frz od (.xd [(F, v)]))) ⟨G', g, dr, tk', os⟩ := I.laid (t' := tk') old M.dbig ⟨hod, ob0 _⟩
  have nu : (upd H d (.frz od (.xd [(F, v)]))) e = none := by rw [upd_ne (Ne.symm M.dne)]; exact ne
  refine ⟨od, t, J.laidN (t' := tk') (fun b o q => ?_) ge nu (xo_ok hoe), nd, ne, Ne.symm M.dne⟩
  by_cases hb : b = e
  · have q' : G'.get? b = some o := q
    rw [hb, ge] at q'; cases q'
  · exact (gk b hb).symm.trans q
theorem lay1 {us : List Value} (I : Inv X pins σ H ⟨hp, g, dr, tk, os⟩) (M : Heap.MadeExcOf hp h' e (.ref C) us) : ∃ t, Inv X pins σ (upd H e (XO e (xObj C t none))) ⟨h', g, dr, tk', os⟩ ∧ H e = none := by
  obtain ⟨t, he, _, _⟩ := M.there
  have ne : H e = none := I.hok.gone M.new
  exact ⟨t, I.laidN (t' := tk') M.keeps M.new ne (xo_ok he), ne⟩
end
section
variable {X : Cx} {W : WX} {pos p : Pos}
def tMkF (C : Addr) (F : Str) (ta : TA) : TE := fun σ H Q => ta σ H fun vs H1 => ∃ v, vs = [v] ∧ ∀ d e t od, H1 d = none → H1 e = none → e ≠ d → Q (.ref e) (upd (upd H1 d (.frz od (.xd [(F, v)]))) e (XO e (xObj C t (some d))))
theorem pe_mkF {x F : Str} {C : Addr} {k : Nat} {a : Expr} {ta : TA} (T : MkX X.prog X.K X.mg F C) (gC : X.mg x = some (.ref C)) (kC : PySem.W.keepIn X.K (.ref C) = true) (sup : X.mg "super" = none) (hr : Room k X.A) (ha : PA X [a] ta) (hg : Gl X x) (hdb : (x == ("__debug__" : Str)) = false) (hp : plainE a = true) : PE X (.Call (.Name x p) [a] [] pos) (tMkF C F ta) := by
  refine ⟨fun pins s σ H Q I h => ?_⟩
  refine wpAny_Call_Name_kw (ld_glob I hg gC ?_ hdb)
  refine PySem.W.callWith_K (h₀ := X.base) I.ok.mod.kin kC (thn (ha.run pos pins s σ H _ I h) fun us s1 hh => ?_) (star_plain hp _ _) rfl
  obtain ⟨vs, H1, I1, r1, v, rfl, q1⟩ := hh
  refine ⟨I1.kIn, ?_⟩
  cases r1 with
  | cons rv rn =>
    rename_i v' us'
    cases rn
    show wpAny _ _ (call (.ref C) [v']) _ _ _
    obtain ⟨mb, hB, hbb⟩ := I1.mod.blt
    have hlim := I1.nolimit
    obtain ⟨hp', g, dr, tk, os⟩ := s1
    refine wpAny_call (T.run I1.kIn (I1.mod.glob.keeps I1.bk) sup (hB.keeps I1.bk) hbb hlim (by have := hr.dp; omega) fun h' tk' e d M => ?_)
    obtain ⟨od, t, J, nd, ne, ed⟩ := lay2 (tk' := tk') I1 M rv
    exact ⟨.ref e, _, J, rfl, q1 d e t od nd ne ed⟩
theorem pe_mk0 {x : Str} {C : Addr} (q : PySem.W.excIn X.K C veB "ValueError.__new__" = true) (gC : X.mg x = some (.ref C)) (kC : PySem.W.keepIn X.K (.ref C) = true) (hg : Gl X x) (hdb : (x == ("__debug__" : Str)) = false) : PE X (.Call (.Name x p) [] [] pos) (fun σ H Q => ∀ e t, H e = none → Q (.ref e) (upd H e (XO e (xObj C t none)))) := by
  refine ⟨fun pins s σ H Q I h => ?_⟩
  refine wpAny_Call_Name_kw (ld_glob I hg gC ?_ hdb)
  refine PySem.W.callWith_K0 I.kIn kC ?_
  show wpAny _ _ (call (.ref C) []) _ _ _
  obtain ⟨bm, N, nm, qn, bs, hdct, sn, sub, ab, col, dd, k0, k1, k2, k3, k5, mN, hC, hN, hni, T⟩ := exc_obj I.kIn q
  obtain ⟨hp', g, dr, tk, os⟩ := s
  refine wpAny_call_exc_subT PySem.F.excBase_ValueError T hC hN hni (fun h' e hm => ?_) (by show 0 ≤ sizeLine; omega)
  obtain ⟨t, J, ne⟩ := lay1 (tk' := tk) I hm
  exact ⟨.ref e, _, J, rfl, h e t ne⟩
theorem Res.exf {K : PySem.W.Frag} {H : Hp} {C e d t : Addr} {x F : Str} {od : Obj} {v : V} {dd : PyData} (hd : H d = none) (he : H e = none) (ed : e ≠ d) (n : PySem.W.nsIn K mainGlobals x = some (some (.ref C))) (i : IsD K H v dd) : Res K H (.ref e) (.dat (xD x [(F, dd)])) (upd (upd H d (.frz od (.xd [(F, v)]))) e (XO e (xObj C t (some d)))) := by
  have k1 : Kp [] H (upd H d (.frz od (.xd [(F, v)]))) := Kp.new hd
  have k2 : Kp [] (upd H d (.frz od (.xd [(F, v)]))) (upd (upd H d (.frz od (.xd [(F, v)]))) e (XO e (xObj C t (some d)))) := Kp.new (by rw [upd_ne ed]; exact he)
  have k := k1.trans k2
  exact ⟨k, [], .dat (.exf upd_same (by rw [upd_ne (Ne.symm ed)]; exact upd_same) n (i.stays (k.stays fun a ha => by simp at ha))), List.nodup_nil, fun a ha => by simp at ha⟩
theorem Res.exn {K : PySem.W.Frag} {H : Hp} {C e t : Addr} {x : Str} (he : H e = none) (n : PySem.W.nsIn K mainGlobals x = some (some (.ref C))) : Res K H (.ref e) (.dat (xD x [])) (upd H e (XO e (xObj C t none))) :=
  ⟨Kp.new he, [], .dat (.exn upd_same n), List.nodup_nil, fun a ha => by simp at ha⟩
theorem se_xmk {x F : Str} {k : Nat} {a : Expr} {m : M Opd} (T : ExV X.prog X.K X.mg x F) (sup : X.mg "super" = none) (hr : Room k X.A) (ha : SE X W a m) (hg : Gl X x) (hdb : (x == ("__debug__" : Str)) = false) (hp : plainE a = true) : SE X W (.Call (.Name x p) [a] [] pos) (eXmk x F m) := by
  obtain ⟨C, T1, gC, nC, kC⟩ := T.ex
  refine (pe_mkF T1 gC kC sup hr (pa_cons ha pa_nil (star_plain hp _ _)).gh hg hdb hp).imp fun σ H Q h => ?_
  obtain ⟨H0, O0, T0, δ, st, hm⟩ := h
  show tE X.K W m σ H _
  refine ⟨H0, O0, T0, δ, st, ?_⟩
  unfold eXmk bnd at hm
  cases e1 : m δ with
  | bad => simp only [e1] at hm
  | exn y δ1 => simp only [e1] at hm; exact hm
  | ok o δ1 =>
    simp only [e1] at hm
    intro v H1 ov st1
    cases e2 : takeD o δ1 with
    | bad => simp only [e2] at hm
    | exn y δ2 => exact absurd e2 takeD_noexn
    | ok dd δ2 =>
      simp only [e2] at hm
      exact takeD_gh ov st1 e2 fun H2 _ st2 iv => ⟨v, rfl, fun d e t od hd he ed => hm _ _ True.intro (st2.res (Res.exf hd he ed nC iv))⟩
theorem se_xmk0 {x : Str} (T : ExW X.K X.mg x) (hg : Gl X x) (hdb : (x == ("__debug__" : Str)) = false) : SE X W (.Call (.Name x p) [] [] pos) (eXmk0 x) := by
  obtain ⟨C, q, gC, nC, kC⟩ := T.ex
  refine (pe_mk0 q gC kC hg hdb).imp fun σ H Q h => ?_
  obtain ⟨H0, O0, T0, δ, st, hm⟩ := h
  intro e t he
  exact hm _ _ True.intro (st.res (Res.exn he nC))
end
end Ev

/-! X3: isinstance of exceptions held as values, their fields. -/
namespace Ev
open PySem PySem.Spec L2
open PyProof.Rows hiding St
variable [Tb]

/-- what isinstance asks of an exception's class -/
structure ExcCk (K : PySem.W.Frag) (C : Addr) : Prop where
  k0 : (PySem.W.clsIn K C).isSome = true
  k1 : PySem.W.findIn K (.ref C) "__getattribute__" = some (some (.builtin "BaseException.__getattribute__"))
  k2 : ∃ gt, PySem.W.findIn K (.ref C) "__getattr__" = some gt
  k3 : PySem.W.subIn K (.ref C) (.type "BaseException") = some true
  k4 : PySem.W.findIn K (.ref C) "__class__" = some (some (.builtin "object.__class__"))
  k5 : PySem.W.specialIn K (.builtin "object.__class__") "__get__" = some (some (.builtin "getset_descriptor.__get__"))
  k6 : PySem.W.takesIn K (.builtin "object.__class__") = some true
  k7 : PySem.W.mroIn K C (.type "object") = some true
def excCkB (K : PySem.W.Frag) (C : Addr) : Bool := (PySem.W.clsIn K C).isSome && (decide (PySem.W.findIn K (.ref C) "__getattribute__" = some (some (.builtin "BaseException.__getattribute__"))) && ((PySem.W.findIn K (.ref C) "__getattr__").isSome && (decide (PySem.W.subIn K (.ref C) (.type "BaseException") = some true) && (decide (PySem.W.findIn K (.ref C) "__class__" = some (some (.builtin "object.__class__"))) && (decide (PySem.W.specialIn K (.builtin "object.__class__") "__get__" = some (some (.builtin "getset_descriptor.__get__"))) && (decide (PySem.W.takesIn K (.builtin "object.__class__") = some true) && decide (PySem.W.mroIn K C (.type "object") = some true)))))))
theorem excCkB_ok {K : PySem.W.Frag} {C : Addr} (h : excCkB K C = true) : ExcCk K C := by
  unfold excCkB at h
  simp only [Bool.and_eq_true, decide_eq_true_eq] at h
  obtain ⟨a0, a1, a2, a3, a4, a5, a6, a7⟩ := h
  exact ⟨a0, a1, Option.isSome_iff_exists.mp a2, a3, a4, a5, a6, a7⟩
def gIsX (all subs : List Str) : PyData → Option SV
  | .dict ((.none, .str x) :: _) => if x ∈ all then some (.dat (.bool (decide (x ∈ subs)))) else none
  | _ => none
def gFldX (all : List Str) (F : Str) : PyData → Option SV
  | .dict [(.none, .str x), (.tuple [.str F'], d)] => if x ∈ all ∧ F' = F then some (.dat d) else none
  | _ => none
section
variable {K : PySem.W.Frag} {H : Hp} {v : V} {n : Str} {r : List (PyData × PyData)}
theorem exc_isD (h : IsD K H v (.dict ((.none, .str n) :: r))) : ∃ (a C t : Addr) (od : Option Addr), v = .ref a ∧ PySem.W.nsIn K mainGlobals n = some (some (.ref C)) ∧ H a = some (XO a (xObj C t od)) ∧ ((od = none ∧ r = []) ∨ ∃ (d : Addr) (ob : Obj) (F : Str) (w : V) (e : PyData), od = some d ∧ H d = some (.frz ob (.xd [(F, w)])) ∧ r = [(.tuple [.str F], e)] ∧ IsD K H w e) := by
  generalize hz : PyData.dict ((.none, .str n) :: r) = z at h
  cases h with
  | @dic a o kvs ds h t =>
    cases kvs with
    | nil => cases hz
    | cons kv kvs =>
      cases ds with
      | nil => cases hz
      | cons d0 ds =>
        obtain ⟨k, w⟩ := kv
        cases k <;> cases hz
  | exn h n' => cases hz; exact ⟨_, _, _, none, rfl, n', h, .inl ⟨rfl, rfl⟩⟩
  | exf h h' n' i => cases hz; exact ⟨_, _, _, some _, rfl, n', h, .inr ⟨_, _, _, _, _, rfl, h', rfl, i⟩⟩
  | _ => cases hz
theorem exc_opn (h : Opn K H v (.dict ((.none, .str n) :: r))) : IsD K H v (.dict ((.none, .str n) :: r)) := by
  generalize hz : PyData.dict ((.none, .str n) :: r) = z at h
  cases h with
  | dat h => exact h
  | lst _ _ => cases hz
  | @dic a kvs ds h t =>
    cases kvs with
    | nil => cases hz
    | cons kv kvs =>
      cases ds with
      | nil => cases hz
      | cons d0 ds =>
        obtain ⟨k, w⟩ := kv
        cases k <;> cases hz
theorem gIsX_inv {all subs : List Str} {d : PyData} {sv : SV} (e : gIsX all subs d = some sv) : ∃ n r, d = .dict ((.none, .str n) :: r) ∧ n ∈ all ∧ sv = .dat (.bool (decide (n ∈ subs))) := by
  unfold gIsX at e
  split at e
  · split at e
    · rename_i x r c
      cases e
      exact ⟨_, _, rfl, c, rfl⟩
    · cases e
  · cases e
theorem gFldX_inv {all : List Str} {F : Str} {d : PyData} {sv : SV} (e : gFldX all F d = some sv) : ∃ n e, d = .dict [(.none, .str n), (.tuple [.str F], e)] ∧ n ∈ all ∧ sv = .dat e := by
  unfold gFldX at e
  split at e
  · split at e
    · rename_i c
      cases e
      obtain ⟨c1, rfl⟩ := c
      exact ⟨_, _, rfl, c1, rfl⟩
    · cases e
  · cases e
end
section
variable {X : Cx} {W : WX} {pos p p2 p3 p4 p5 : Pos} {all subs : List Str}
theorem exc_at {pins : List (Addr × Obj)} {σ : St} {H : Hp} {s : Shared} {a C t : Addr} {od : Option Addr} (I : Inv X pins σ H s) (h : H a = some (XO a (xObj C t od))) (hd : od = none ∨ ∃ (d : Addr) (ob : Obj) (u : HO), od = some d ∧ H d = some (.frz ob u)) : ∃ ob, PySem.W.InstAt s.heap a (xObj C t od) C ob := by
  obtain ⟨h1, _⟩ := (show ObjOk X.prog X.w H s.heap a (XO a (xObj C t od)) from I.hok a _ h)
  rcases hd with rfl | ⟨d, ob, u, rfl, hd⟩
  · exact ⟨none, h1, rfl, rfl, trivial⟩
  · obtain ⟨h2, _⟩ := (show ObjOk X.prog X.w H s.heap d (.frz ob u) from I.hok d _ hd)
    exact ⟨some ob, h1, rfl, rfl, h2⟩
/-- isinstance(e, c), c one class -/
def rIsX1 (K : PySem.W.Frag) (all subs : List Str) (c : V) : List V → Hp → VK → Prop := fun xs H Q => ∃ x n r, xs = [x, c] ∧ IsD K H x (.dict ((.none, .str n) :: r)) ∧ n ∈ all ∧ Q (.bl (decide (n ∈ subs))) H
theorem call_isX1 {c : V} {u : Value} (k : ClsV c u) (hf : ∀ n ∈ all, ∀ C, PySem.W.nsIn X.K mainGlobals n = some (some (.ref C)) → ExcCk X.K C ∧ PySem.W.kitOne X.K (.ref C) u = some (decide (n ∈ subs))) : CallR X (.builtin "isinstance") (rIsX1 X.K all subs c) := by
  intro pins s σ H xs us Q I r h
  obtain ⟨x, n, rr, rfl, i, hn, q⟩ := h
  obtain ⟨a, C, t, od, rfl, nC, ha, hd⟩ := exc_isD i
  obtain ⟨u1, u2, rfl, r1, r2⟩ := vals2 r
  have e2 := k.eq r2
  subst e2
  cases (show u1 = Value.ref a from r1)
  obtain ⟨ck, e⟩ := hf n hn C nC
  obtain ⟨gt, k2⟩ := ck.k2
  obtain ⟨ob, J⟩ := exc_at I ha (by rcases hd with ⟨rfl, _⟩ | ⟨d, ob, F, w, e, rfl, h, _⟩; exact .inl rfl; exact .inr ⟨d, ob, _, rfl, h⟩)
  exact PySem.W.kia_one (PySem.W.kitx_exc ck.k0 ck.k1 k2 ck.k3 ck.k4 ck.k5 ck.k6 ck.k7) I.kIn J e (fun z => nomatch z) fun tk => ⟨.bl _, H, I.tok tk, rfl, q⟩
/-- isinstance(e, (c1, ..)), the tuple just laid -/
def rIsXT (K : PySem.W.Frag) (all subs : List Str) (cs : List V) : List V → Hp → VK → Prop := fun xs H Q => ∃ x n r tp, xs = [x, .ref tp] ∧ H tp = some (.tup cs) ∧ IsD K H x (.dict ((.none, .str n) :: r)) ∧ n ∈ all ∧ Q (.bl (decide (n ∈ subs))) H
theorem call_isXT {cs : List V} {ws : List Value} (k : Paired ClsV cs ws) (hf : ∀ n ∈ all, ∀ C, PySem.W.nsIn X.K mainGlobals n = some (some (.ref C)) → ExcCk X.K C ∧ PySem.W.kitAny X.K (.ref C) ws = some (decide (n ∈ subs))) : CallR X (.builtin "isinstance") (rIsXT X.K all subs cs) := by
  intro pins s σ H xs us Q I r h
  obtain ⟨x, n, rr, tp, rfl, hT, i, hn, q⟩ := h
  obtain ⟨a, C, t, od, rfl, nC, ha, hd⟩ := exc_isD i
  obtain ⟨u1, u2, rfl, r1, r2⟩ := vals2 r
  cases (show u2 = Value.ref tp from r2)
  cases (show u1 = Value.ref a from r1)
  obtain ⟨ck, e⟩ := hf n hn C nC
  obtain ⟨gt, k2⟩ := ck.k2
  obtain ⟨ob, J⟩ := exc_at I ha (by rcases hd with ⟨rfl, _⟩ | ⟨d, ob, F, w, e, rfl, h, _⟩; exact .inl rfl; exact .inr ⟨d, ob, _, rfl, h⟩)
  obtain ⟨_, its, rv, o, h1, h2, m, h3⟩ := (show ObjOk X.prog X.w H s.heap tp (.tup cs) from I.hok tp _ hT)
  have e3 := ClsV.all k rv
  subst e3
  obtain ⟨oc, od', dt, sl⟩ := o
  simp only at h2 h3
  subst h2 h3
  exact PySem.W.kia_tup (PySem.W.kitx_exc ck.k0 ck.k1 k2 ck.k3 ck.k4 ck.k5 ck.k6 ck.k7) I.kIn J h1 e (fun z => nomatch z) fun tk => ⟨.bl _, H, I.tok tk, rfl, q⟩
theorem pe_own {t : Str} {C : Addr} (hg : Gl X t) (gC : X.mg t = some (.ref C)) (hdb : (t == ("__debug__" : Str)) = false) : PE X (.Name t p) (tC (.ref C)) :=
  ⟨fun pins s σ H Q I h => ld_glob I hg gC ⟨.ref C, H, I, rfl, h⟩ hdb⟩
theorem se_isX1 {x t : Str} {e : Expr} {m : M Opd} {c : V} {u : Value} (k : ClsV c u) (hf : ∀ n ∈ all, ∀ C, PySem.W.nsIn X.K mainGlobals n = some (some (.ref C)) → ExcCk X.K C ∧ PySem.W.kitOne X.K (.ref C) u = some (decide (n ∈ subs))) (hg : Gl X x) (hm : X.mg x = none) (hv : bootBuiltins x = some (.builtin "isinstance")) (hn : x ≠ "__name__") (hdb : (x == ("__debug__" : Str)) = false) (hp : plainE e = true) (he : SE X W e m) (hc : PE X (.Name t p2) (tC c)) :
    SE X W (.Call (.Name x p) [e, .Name t p2] [] pos) (eOp (g1 (gIsX all subs)) [m]) :=
  (pe_callB (call_isX1 k hf) hg hm hv (pa_cons he (pa_cons hc pa_nil) (star_plain hp _ _)) hn hdb (star_plain hp _ _) (by rfl)).imp fun σ H Q h => tE_mono (one_t h) fun y H1 q => by
    obtain ⟨ds, sv, po, e, q⟩ := q
    obtain ⟨d, rfl, a⟩ := one_opn po
    obtain ⟨n, r, rfl, hn, rfl⟩ := gIsX_inv (show gIsX all subs d = some sv from e)
    exact ⟨y, n, r, rfl, exc_opn a, hn, q _ _ (Res.same (.bl _))⟩
theorem se_isX3 {x : Str} {cx : Nat} {e : Expr} {m : M Opd} {c1 c2 c3 : V} {u1 u2 u3 : Value} {e1 e2 e3 : Expr} (k1 : ClsV c1 u1) (k2 : ClsV c2 u2) (k3 : ClsV c3 u3) (hf : ∀ n ∈ all, ∀ C, PySem.W.nsIn X.K mainGlobals n = some (some (.ref C)) → ExcCk X.K C ∧ PySem.W.kitAny X.K (.ref C) [u1, u2, u3] = some (decide (n ∈ subs))) (hg : Gl X x) (hm : X.mg x = none) (hv : bootBuiltins x = some (.builtin "isinstance")) (hn : x ≠ "__name__") (hdb : (x == ("__debug__" : Str)) = false) (hp : plainE e = true) (he : SE X W e m) (hc : PA X [e1, e2, e3] (tCons (tC c1) (tCons (tC c2) (tCons (tC c3) tNil)))) :
    SE X W (.Call (.Name x p) [e, .Tuple [e1, e2, e3] cx p5] [] pos) (eOp (g1 (gIsX all subs)) [m]) :=
  (pe_callB (call_isXT (.cons k1 (.cons k2 (.cons k3 .nil))) hf) hg hm hv (pa_cons he (pa_cons (pe_tup hc) pa_nil) (star_plain hp _ _)) hn hdb (star_plain hp _ _) (by rfl)).imp fun σ H Q h => tE_mono (one_t h) fun y H1 q => by
    obtain ⟨ds, sv, po, e, q⟩ := q
    obtain ⟨d, rfl, a⟩ := one_opn po
    obtain ⟨n, r, rfl, hn, rfl⟩ := gIsX_inv (show gIsX all subs d = some sv from e)
    refine ⟨by show 3 ≤ sizeLine; rw [sizeLine_eq]; omega, fun tp htp => ?_⟩
    have k : Kp [] H1 (upd H1 tp (.tup [c1, c2, c3])) := Kp.new htp
    exact ⟨y, n, r, tp, rfl, upd_same, (exc_opn a).stays (k.stays fun a ha => by simp at ha), hn, q _ _ ⟨k, [], .dat (.bl _), List.nodup_nil, fun a ha => by simp at ha⟩⟩
/-- e.F -/
theorem pe_xe {e : Expr} {te : TE} {F : Str} (hf : ∀ n ∈ all, ∀ C, PySem.W.nsIn X.K mainGlobals n = some (some (.ref C)) → XfC X.K C ∧ PySem.W.findIn X.K (.ref C) F = some none) (he : PE X e te) (hb : attributeBase e F X.env (eval e X.env) = eval e X.env) :
    PE X (.Attribute e F pos) (fun σ H Q => te σ H fun x H1 => ∃ n d, IsD X.K H1 x (.dict [(.none, .str n), (.tuple [.str F], d)]) ∧ n ∈ all ∧ (∀ v, IsD X.K H1 v d → Q v H1)) := by
  refine ⟨fun pins s σ H Q I h => ?_⟩
  refine attr_of hb (thn (he.run pins s σ H _ I h) fun u s1 hh => ?_)
  obtain ⟨x, H1, I1, rx, n, d, i, hn, q⟩ := hh
  obtain ⟨a, C, t, od, rfl, nC, ha, hd⟩ := exc_isD i
  obtain rfl : u = Value.ref a := rx
  rcases hd with ⟨_, z⟩ | ⟨dx, ob, F', w, e', rfl, hx, z, iw⟩
  · cases z
  · cases z
    obtain ⟨T, hno⟩ := hf n hn C nC
    obtain ⟨h2, hxd⟩ := (show ObjOk X.prog X.w H1 s1.heap dx (.frz ob (.xd [(F, w)])) from I1.hok dx _ hx)
    obtain ⟨h1, _⟩ := (show ObjOk X.prog X.w H1 s1.heap a (XO a (xObj C t (some dx))) from I1.hok a _ ha)
    obtain ⟨mA, hns, hr⟩ := hxd
    obtain ⟨od, ho, hl⟩ := lookIn_ns hns
    rw [h2] at ho
    cases ho
    have hw : List.lookup F [(F, w)] = some w := by simp [List.lookup]
    obtain ⟨u, hu, ru⟩ := RelO.some_of (v := w) (o := mA F) (by rw [← hw]; exact hr F)
    have J : PySem.W.InstAt s1.heap a (xObj C t (some dx)) C (some ob) := ⟨h1, rfl, rfl, h2⟩
    exact HandSPX.exc_get I1.kIn J T.ga T.gg T.exC (PySem.W.findObj_own T.hdC hno rfl (by rw [hl, hu])) (handed_of ru) ⟨w, H1, I1.tok _, ru, q w iw⟩
theorem se_xfld {e : Expr} {m : M Opd} {F : Str} (hf : ∀ n ∈ all, ∀ C, PySem.W.nsIn X.K mainGlobals n = some (some (.ref C)) → XfC X.K C ∧ PySem.W.findIn X.K (.ref C) F = some none) (he : SE X W e m) (hb : attributeBase e F X.env (eval e X.env) = eval e X.env) : SE X W (.Attribute e F pos) (eOp (g1 (gFldX all F)) [m]) :=
  (pe_xe hf he hb).imp fun σ H Q h => tE_mono (one_t h) fun y H1 q => by
    obtain ⟨ds, sv, po, e, q⟩ := q
    obtain ⟨d, rfl, a⟩ := one_opn po
    obtain ⟨n, dd, rfl, hn, rfl⟩ := gFldX_inv (show gFldX all F d = some sv from e)
    exact ⟨n, dd, exc_opn a, hn, fun v iv => q _ _ (Res.same iv)⟩
end
end Ev

/-! X4: repr of a list whose items may be dicts. -/
namespace Ev
open PySem PySem.Spec L2
open PyProof.Rows hiding St
variable [Tb]

mutual
theorem reads_lists {h : Heap} : ∀ {u : Value} {d : PyData} {as : List Addr}, Reads h u d as → d.canLay0 = true → ∀ a ∈ as, ∃ o, h.get? a = some o ∧ o.cls = .type "list"
  | _, _, _, .none, _ => fun a ha => by simp at ha
  | _, _, _, .bool _, _ => fun a ha => by simp at ha
  | _, _, _, .int _ _, _ => fun a ha => by simp at ha
  | _, _, _, .str _ _, _ => fun a ha => by simp at ha
  | _, _, _, .list ho hc _ r, c => fun a ha => by
    rcases List.mem_cons.mp ha with q | q
    · rw [q]; exact ⟨_, ho, hc⟩
    · exact reads_listsA r (by simpa [PyData.canLay0] using c) a q
  | _, _, _, .tuple _ _ _ r, c => fun a ha => reads_listsA r (by simpa [PyData.canLay0] using c) a ha
  | _, _, _, .dict _ _ _ _ _, c => by simp [PyData.canLay0] at c
theorem reads_listsA {h : Heap} : ∀ {us : List Value} {ds : List PyData} {as : List Addr}, ReadsAll h us ds as → PyData.canLayAll0 ds = true → ∀ a ∈ as, ∃ o, h.get? a = some o ∧ o.cls = .type "list"
  | _, _, _, .nil, _ => fun a ha => by simp at ha
  | _, _, _, .cons (d := d) (ds := ds) r rs, c => fun a ha => by
    have c' : d.canLay0 = true ∧ PyData.canLayAll0 ds = true := by simpa [PyData.canLayAll0] using c
    rcases List.mem_append.mp ha with q | q
    · exact reads_lists r c'.1 a q
    · exact reads_listsA rs c'.2 a q
end
def okIt : PyData → Bool
  | .dict kvs => noX kvs && PyData.canLayAll0 (kvs.map (·.2))
  | d => d.canLay0
def gReprX : PyData → Option SV
  | .list zs => if (zs.all okIt && (PyData.list zs).showable && decide ((PyData.list zs).depth ≤ 64) && decide ((PyData.list zs).shown.length ≤ sizeLine)) = true then some (.dat (.str (PyData.list zs).shown)) else none
  | _ => none
section
variable {X : Cx} {pins : List (Addr × Obj)} {σ : St} {H : Hp} {s : Shared}
theorem key_reads {P : Program} {w : World} {h : Heap} (k : Key) (key : Value) (e : (mixKind P w).is k key = true) : Reads h key (kD k) [] := by
  rcases keyIs_shape e with ⟨i, t, rfl, rfl⟩ | ⟨x, t, rfl, rfl⟩
  · exact .int i t
  · exact .str x t
theorem vals_reads (I : Inv X pins σ H s) : ∀ {kvs : List (Key × V)} {ds : List PyData} {vs : List (Key × Value)}, IsAll X.K H (kvs.map (·.2)) ds → KV kvs vs → PyData.canLayAll0 ds = true → ∃ bs, PyProof.V.PairsRead s.heap kD vs (kvsD kvs ds) bs ∧ ∀ a ∈ bs, ∃ o, s.heap.get? a = some o ∧ o.cls = .type "list"
  | [], _, _, .nil, .nil, _ => ⟨[], .nil, fun a ha => by simp at ha⟩
  | kv :: kvs, _, _, .cons (d := d) (ds := ds) i t, .cons (b := q) r rs, c => by
    have c' : d.canLay0 = true ∧ PyData.canLayAll0 ds = true := by simpa [PyData.canLayAll0] using c
    obtain ⟨bs, p, hb⟩ := vals_reads I t rs c'.2
    obtain ⟨as, ra⟩ := Dp.reads I d _ _ (i.dp c'.1) r.2
    obtain ⟨k', v'⟩ := q
    obtain ⟨k, v⟩ := kv
    obtain rfl : k = k' := r.1
    refine ⟨as ++ bs, .cons ra p, fun a ha => ?_⟩
    rcases List.mem_append.mp ha with z | z
    · exact reads_lists ra c'.1 a z
    · exact hb a z
theorem not_sys (I : Inv X pins σ H s) (hsys : ∃ o, X.K.lookup sysModules = some o ∧ o.cls = .type "dict") {a : Addr} (h : ∃ o, s.heap.get? a = some o ∧ o.cls = .type "list") : a ≠ sysModules := fun e => by
  subst e
  obtain ⟨o, h1, h2⟩ := h
  obtain ⟨o', l, c⟩ := hsys
  have := I.kIn _ _ l
  rw [h1] at this
  cases this
  rw [h2] at c
  injection c with c
  exact absurd c (by decide)
theorem it_reads (I : Inv X pins σ H s) (hsys : ∃ o, X.K.lookup sysModules = some o ∧ o.cls = .type "dict") {v : V} {d : PyData} {u : Value} (i : IsD X.K H v d) (r : RelV v u) (c : okIt d = true) : ∃ as, Reads s.heap u d as ∧ sysModules ∉ as := by
  have base : d.canLay0 = true → ∃ as, Reads s.heap u d as ∧ sysModules ∉ as := fun c => by
    obtain ⟨as, ra⟩ := Dp.reads I d _ _ (i.dp c) r
    exact ⟨as, ra, fun z => not_sys I hsys (reads_lists ra c _ z) rfl⟩
  cases d with
  | dict kvs0 =>
    unfold okIt at c
    rw [Bool.and_eq_true] at c
    obtain ⟨a, o, kvs, ds, rfl, hf, t, rfl⟩ := dic_inv i c.1
    cases (show u = Value.ref a from r)
    obtain ⟨_, _, hs, vs, rel, dd⟩ := (show ObjOk X.prog X.w H s.heap a (.frz o (.dK kvs)) from I.hok a _ hf)
    have e2 : (kvsD kvs ds).map (·.2) = ds := by
      unfold kvsD
      rw [List.map_snd_zip]
      have := t.length
      rw [List.length_map] at this ⊢
      omega
    rw [e2] at c
    obtain ⟨bs, p, hb⟩ := vals_reads I t rel c.2
    refine ⟨a :: bs, PyProof.V.reads_dictOf (fun k key e => key_reads k key e) dd p, fun z => ?_⟩
    rcases List.mem_cons.mp z with q | q
    · rw [← q] at hs; exact absurd hs (by decide)
    · exact not_sys I hsys (hb _ q) rfl
  | none => exact base c
  | bool _ => exact base c
  | int _ => exact base c
  | str _ => exact base c
  | list _ => exact base c
  | tuple _ => exact base c
theorem its_reads (I : Inv X pins σ H s) (hsys : ∃ o, X.K.lookup sysModules = some o ∧ o.cls = .type "dict") : ∀ {vs : List V} {ds : List PyData} {us : List Value}, IsAll X.K H vs ds → Vals vs us → ds.all okIt = true → ∃ as, ReadsAll s.heap us ds as ∧ sysModules ∉ as
  | _, _, _, .nil, .nil, _ => ⟨[], .nil, by simp⟩
  | _, _, _, .cons i t, .cons r rs, c => by
    rw [List.all_cons, Bool.and_eq_true] at c
    obtain ⟨as, ra, na⟩ := it_reads I hsys i r c.1
    obtain ⟨bs, rb, nb⟩ := its_reads I hsys t rs c.2
    exact ⟨as ++ bs, .cons ra rb, fun z => (List.mem_append.mp z).elim na nb⟩
end
section
variable {X : Cx}
theorem br_reprX (hG : X.A.guards = some []) (hu : X.A.units + 66 < cLine) (hsys : ∃ o, X.K.lookup sysModules = some o ∧ o.cls = .type "dict") : BR X (.builtin "repr") (g1 gReprX) := by
  intro pins s σ H xs us Q I r h
  obtain ⟨ds, sv, po, e, q⟩ := h
  obtain ⟨d, ed, hd⟩ : ∃ d, ds = [d] ∧ gReprX d = some sv := by
    unfold g1 at e
    split at e
    · exact ⟨_, rfl, e⟩
    · cases e
  subst ed
  unfold gReprX at hd
  split at hd
  · rename_i zs
    split at hd
    · rename_i c
      simp only [Bool.and_eq_true, decide_eq_true_eq] at c
      obtain ⟨⟨⟨c1, c2⟩, c3⟩, c4⟩ := c
      cases hd
      cases po with
      | cons a t =>
        cases t
        cases r with
        | cons rx rr =>
          cases rr
          obtain ⟨l, vs, rfl, h1, t1⟩ := a.sql
          cases rx
          obtain ⟨its, rv, ⟨o, n, ho, hc, _, hd⟩, _⟩ := I.list h1
          obtain ⟨as, ra, na⟩ := its_reads I hsys t1 rv c1
          have rd : Reads s.heap (.ref l) (.list zs) (l :: as) := Reads.list ho hc hd ra
          have ns : sysModules ∉ l :: as := fun z => (List.mem_cons.mp z).elim (fun q => not_sys I hsys ⟨o, ho, hc⟩ q.symm) na
          exact repr_of_reads' rd c2 (fun _ => ns) hG (by omega) (fun _ _ e => e) (fun h' u tk k => ⟨.str _, H, I.kept k, ⟨_, rfl⟩, q _ _ (Res.same (.str _))⟩) c4
    · cases hd
  · cases hd
end
end Ev

/-! X5: facts of exception classes held as values, read off the head. -/
namespace Hz
open PySem PySem.Spec PyProof.Rows L2 He

def clsLB (K : PySem.W.Frag) (C : Addr) : Bool := match PySem.W.clsIn K C with
  | some cd => PySem.HandSPX.refsLE cd.mro && cd.hasDict
  | none => false
/-- all that is asked of an own exception class over LookupError, but the function's text -/
def excLB (prog : Program) (K : PySem.W.Frag) (x F : Str) : Bool :=
  let C := ga K x
  let f := ma K C "__init__"
  clsrB K f && (PySem.W.excInitIn K C Ev.leB "LookupError.__new__" && (eqV (PySem.W.findIn K (.ref C) "__init__") (some (some (.ref f))) && (PySem.W.isFn K (.ref f) && (codeB prog K (codeOfF K f) && (cellB K (cellOf K f) C && (clsLB K C &&
    (decide (PySem.W.mroIn K C (.ref C) = some true) && ((prog.main.scope.names.lookup ("super" : Str)).isSome == false && (eqV (PySem.W.nsIn K cStatics "thirdparty.any") (some none) && (eqV (PySem.W.ks_superIn K C C "__init__") (some (some (.builtin "LookupError.__init__"))) &&
    (decide (PySem.W.subIn K (.ref C) (.type "LookupError") = some true) && (eqV (PySem.W.findIn K (.ref C) "__setattr__") (some (some (.builtin "object.__setattr__"))) && (eqV (PySem.W.findIn K (.ref C) F) (some none) && (decide (F ≠ "self") && ((F == ("__debug__" : Str)) == false &&
    (PySem.W.keepIn K (.ref C) && (decide (PySem.W.subIn K (.ref C) (.type "BaseException") = some true) && (decide (PySem.W.typeIn K (.ref C) = some (.type "type")) && (decide (PySem.W.exmOne K (.ref C) (.ref C) = some true) && xfB K C)))))))))))))))))))
structure ExcFL (prog : Program) (K : PySem.W.Frag) (x F : Str) : Prop where
  a0 : clsrB K (ma K (ga K x) "__init__") = true
  a1 : PySem.W.excInitIn K (ga K x) Ev.leB "LookupError.__new__" = true
  a2 : PySem.W.findIn K (.ref (ga K x)) "__init__" = some (some (.ref (ma K (ga K x) "__init__")))
  a3 : PySem.W.isFn K (.ref (ma K (ga K x) "__init__")) = true
  a4 : codeB prog K (codeOfF K (ma K (ga K x) "__init__")) = true
  a5 : cellB K (cellOf K (ma K (ga K x) "__init__")) (ga K x) = true
  a6 : clsLB K (ga K x) = true
  a7 : PySem.W.mroIn K (ga K x) (.ref (ga K x)) = some true
  a8 : (prog.main.scope.names.lookup ("super" : Str)).isSome = false
  a9 : PySem.W.nsIn K cStatics "thirdparty.any" = some none
  b1 : PySem.W.ks_superIn K (ga K x) (ga K x) "__init__" = some (some (.builtin "LookupError.__init__"))
  b2 : PySem.W.subIn K (.ref (ga K x)) (.type "LookupError") = some true
  b3 : PySem.W.findIn K (.ref (ga K x)) "__setattr__" = some (some (.builtin "object.__setattr__"))
  b4 : PySem.W.findIn K (.ref (ga K x)) F = some none
  b5 : F ≠ "self"
  b6 : (F == ("__debug__" : Str)) = false
  b7 : PySem.W.keepIn K (.ref (ga K x)) = true
  b8 : PySem.W.subIn K (.ref (ga K x)) (.type "BaseException") = some true
  b9 : PySem.W.typeIn K (.ref (ga K x)) = some (.type "type")
  c1 : PySem.W.exmOne K (.ref (ga K x)) (.ref (ga K x)) = some true
  c2 : xfB K (ga K x) = true
theorem excLB_ok {prog : Program} {K : PySem.W.Frag} {x F : Str} (h : excLB prog K x F = true) : ExcFL prog K x F := by
  unfold excLB at h
  obtain ⟨a0, h⟩ := ba h
  obtain ⟨a1, h⟩ := ba h
  obtain ⟨a2, h⟩ := ba h
  obtain ⟨a3, h⟩ := ba h
  obtain ⟨a4, h⟩ := ba h
  obtain ⟨a5, h⟩ := ba h
  obtain ⟨a6, h⟩ := ba h
  obtain ⟨a7, h⟩ := ba h
  obtain ⟨a8, h⟩ := ba h
  obtain ⟨a9, h⟩ := ba h
  obtain ⟨b1, h⟩ := ba h
  obtain ⟨b2, h⟩ := ba h
  obtain ⟨b3, h⟩ := ba h
  obtain ⟨b4, h⟩ := ba h
  obtain ⟨b5, h⟩ := ba h
  obtain ⟨b6, h⟩ := ba h
  obtain ⟨b7, h⟩ := ba h
  obtain ⟨b8, h⟩ := ba h
  obtain ⟨b9, h⟩ := ba h
  obtain ⟨c1, c2⟩ := ba h
  exact ⟨a0, a1, of_decide_eq_true a2, a3, a4, a5, a6, of_decide_eq_true a7, by simpa using a8, of_decide_eq_true a9, of_decide_eq_true b1, of_decide_eq_true b2, of_decide_eq_true b3, of_decide_eq_true b4, of_decide_eq_true b5, by simpa using b6, b7, of_decide_eq_true b8,
    of_decide_eq_true b9, of_decide_eq_true c1, c2⟩
/-- the class as the layer wants it: fn, what stands of its __init__ -/
theorem ExcFL.t {prog : Program} {K : PySem.W.Frag} {x F : Str} (e : ExcFL prog K x F) (i : Ev.ExI F K (ma K (ga K x) "__init__") (cellOf K (ma K (ga K x) "__init__")) (codeOfF K (ma K (ga K x) "__init__"))) :
    Ev.ExTL prog F K (ga K x) (ma K (ga K x) "__init__") (cellOf K (ma K (ga K x) "__init__")) (codeOfF K (ma K (ga K x) "__init__")) := by
  refine ⟨e.a1, e.a2, e.a3, i, ?_, ?_, ?_, e.a7, e.a8, e.a9, e.b1, e.b2, e.b3, e.b4, e.b5, e.b6⟩
  · have h := e.a4
    unfold codeB at h
    split at h
    · rename_i c d vs sl lk
      split at h
      · rename_i file tf hv
        exact ⟨_, _, vs, _, file, tf, lk, hv, h⟩
      · cases h
    · cases h
  · have h := e.a5
    unfold cellB at h
    split at h
    · rename_i c d D sl lk
      have q : D = _ := of_decide_eq_true h
      subst q
      exact ⟨_, _, _, lk⟩
    · cases h
  · have h := e.a6
    unfold clsLB at h
    split at h
    · rename_i cd q
      obtain ⟨h1, h2⟩ := ba h
      exact ⟨cd, q, h1, h2⟩
    · cases h

theorem ExcF.v {prog : Program} {K : PySem.W.Frag} {mg : Str → Option Value} {x F : Str} (e : ExcF prog K x F) (i : Ev.ExI F K (ma K (ga K x) "__init__") (cellOf K (ma K (ga K x) "__init__")) (codeOfF K (ma K (ga K x) "__init__"))) (g : mg x = some (.ref (ga K x)))
    (n : PySem.W.nsIn K mainGlobals x = some (some (.ref (ga K x)))) : Ev.ExV prog K mg x F :=
  letI : Ev.Tb := ⟨[]⟩
  ⟨_, Ev.mkX_v (e.t i), g, n, e.b7⟩
theorem ExcFL.v {prog : Program} {K : PySem.W.Frag} {mg : Str → Option Value} {x F : Str} (e : ExcFL prog K x F) (i : Ev.ExI F K (ma K (ga K x) "__init__") (cellOf K (ma K (ga K x) "__init__")) (codeOfF K (ma K (ga K x) "__init__"))) (g : mg x = some (.ref (ga K x)))
    (n : PySem.W.nsIn K mainGlobals x = some (some (.ref (ga K x)))) : Ev.ExV prog K mg x F :=
  letI : Ev.Tb := ⟨[]⟩
  ⟨_, Ev.mkX_l (e.t i), g, n, e.b7⟩
/-- a class without its own __init__ -/
def exc0B (K : PySem.W.Frag) (x : Str) : Bool := PySem.W.excIn K (ga K x) Ev.veB "ValueError.__new__" && PySem.W.keepIn K (.ref (ga K x))
theorem exc0B_ok {K : PySem.W.Frag} {mg : Str → Option Value} {x : Str} (h : exc0B K x = true) (g : mg x = some (.ref (ga K x))) (n : PySem.W.nsIn K mainGlobals x = some (some (.ref (ga K x)))) : Ev.ExW K mg x := by
  obtain ⟨a, b⟩ := ba h
  exact ⟨_, a, g, n, b⟩
/-- isinstance of each of the classes -/
def isXB (K : PySem.W.Frag) (all subs : List Str) (u : Value) : Bool := all.all fun n => decide (PySem.W.nsIn K mainGlobals n = some (some (.ref (ga K n)))) && (Ev.excCkB K (ga K n) && decide (PySem.W.kitOne K (.ref (ga K n)) u = some (decide (n ∈ subs))))
theorem isXB_ok {K : PySem.W.Frag} {all subs : List Str} {u : Value} (h : isXB K all subs u = true) : ∀ n ∈ all, ∀ C, PySem.W.nsIn K mainGlobals n = some (some (.ref C)) → Ev.ExcCk K C ∧ PySem.W.kitOne K (.ref C) u = some (decide (n ∈ subs)) := fun n hn C e => by
  obtain ⟨a, b⟩ := ba (List.all_eq_true.mp h n hn)
  obtain ⟨b, c⟩ := ba b
  have a := of_decide_eq_true a
  rw [e] at a
  cases a
  letI : Ev.Tb := ⟨[]⟩
  exact ⟨Ev.excCkB_ok b, of_decide_eq_true c⟩
def isXT (K : PySem.W.Frag) (all subs : List Str) (us : List Value) : Bool := all.all fun n => decide (PySem.W.nsIn K mainGlobals n = some (some (.ref (ga K n)))) && (Ev.excCkB K (ga K n) && decide (PySem.W.kitAny K (.ref (ga K n)) us = some (decide (n ∈ subs))))
theorem isXT_ok {K : PySem.W.Frag} {all subs : List Str} {us : List Value} (h : isXT K all subs us = true) : ∀ n ∈ all, ∀ C, PySem.W.nsIn K mainGlobals n = some (some (.ref C)) → Ev.ExcCk K C ∧ PySem.W.kitAny K (.ref C) us = some (decide (n ∈ subs)) := fun n hn C e => by
  obtain ⟨a, b⟩ := ba (List.all_eq_true.mp h n hn)
  obtain ⟨b, c⟩ := ba b
  have a := of_decide_eq_true a
  rw [e] at a
  cases a
  letI : Ev.Tb := ⟨[]⟩
  exact ⟨Ev.excCkB_ok b, of_decide_eq_true c⟩
def fldB (K : PySem.W.Frag) (all : List Str) (F : Str) : Bool := all.all fun n => decide (PySem.W.nsIn K mainGlobals n = some (some (.ref (ga K n)))) && (xfB K (ga K n) && eqV (PySem.W.findIn K (.ref (ga K n)) F) (some none))
theorem fldB_ok {K : PySem.W.Frag} {all : List Str} {F : Str} (h : fldB K all F = true) : ∀ n ∈ all, ∀ C, PySem.W.nsIn K mainGlobals n = some (some (.ref C)) → XfC K C ∧ PySem.W.findIn K (.ref C) F = some none := fun n hn C e => by
  obtain ⟨a, b⟩ := ba (List.all_eq_true.mp h n hn)
  obtain ⟨b, c⟩ := ba b
  have a := of_decide_eq_true a
  rw [e] at a
  cases a
  exact ⟨xfB_ok b, of_decide_eq_true c⟩
def sysB (K : PySem.W.Frag) : Bool := match K.lookup sysModules with
  | some ⟨.type c, _, _, _⟩ => decide (c = "dict")
  | _ => false
theorem sysB_ok {K : PySem.W.Frag} (h : sysB K = true) : ∃ o, K.lookup sysModules = some o ∧ o.cls = .type "dict" := by
  unfold sysB at h
  split at h
  · rename_i c d e f lk
    have q : c = "dict" := of_decide_eq_true h
    subst q
    exact ⟨_, lk, rfl⟩
  · cases h
end Hz

namespace Hd
open PySem PySem.Spec PyProof.Rows L2
def top (i : Nat) : Stmt := PySem.Challenge.pw_answerrows_k00_errors.main.body.getD i (.Pass ⟨0, 0, 0, 0⟩)
abbrev s_BadText_init : Stmt := inClass (top 3) 0
def d_BadText_init : He.DefD := ⟨("BadText", some "__init__"), "__init__", "BadText.__init__", defArgs s_BadText_init, defBody s_BadText_init, defScope s_BadText_init, [], []⟩
abbrev s_BadUse_init : Stmt := inClass (top 4) 0
def d_BadUse_init : He.DefD := ⟨("BadUse", some "__init__"), "__init__", "BadUse.__init__", defArgs s_BadUse_init, defBody s_BadUse_init, defScope s_BadUse_init, [], []⟩
abbrev s_TooGreat_init : Stmt := inClass (top 6) 0
def d_TooGreat_init : He.DefD := ⟨("TooGreat", some "__init__"), "__init__", "TooGreat.__init__", defArgs s_TooGreat_init, defBody s_TooGreat_init, defScope s_TooGreat_init, [], []⟩
abbrev s_Refused_init : Stmt := inClass (top 7) 0
def d_Refused_init : He.DefD := ⟨("Refused", some "__init__"), "__init__", "Refused.__init__", defArgs s_Refused_init, defBody s_Refused_init, defScope s_Refused_init, [], []⟩
abbrev s_UnknownName_init : Stmt := inClass (top 9) 0
def d_UnknownName_init : He.DefD := ⟨("UnknownName", some "__init__"), "__init__", "UnknownName.__init__", defArgs s_UnknownName_init, defBody s_UnknownName_init, defScope s_UnknownName_init, [], []⟩
abbrev s__law_source : Stmt := top 11
def d__law_source : He.DefD := ⟨("_law_source", none), "_law_source", "_law_source", defArgs s__law_source, defBody s__law_source, defScope s__law_source, [], []⟩
abbrev s__law_pick : Stmt := top 12
def d__law_pick : He.DefD := ⟨("_law_pick", none), "_law_pick", "_law_pick", defArgs s__law_pick, defBody s__law_pick, defScope s__law_pick, [], []⟩
abbrev s__law_of : Stmt := top 13
def d__law_of : He.DefD := ⟨("_law_of", none), "_law_of", "_law_of", defArgs s__law_of, defBody s__law_of, defScope s__law_of, [], []⟩
abbrev s__law_every : Stmt := top 14
def d__law_every : He.DefD := ⟨("_law_every", none), "_law_every", "_law_every", defArgs s__law_every, defBody s__law_every, defScope s__law_every, [], []⟩
abbrev s__law_kinds : Stmt := top 15
def d__law_kinds : He.DefD := ⟨("_law_kinds", none), "_law_kinds", "_law_kinds", defArgs s__law_kinds, defBody s__law_kinds, defScope s__law_kinds, [], []⟩
abbrev s__law_bases : Stmt := top 16
def d__law_bases : He.DefD := ⟨("_law_bases", none), "_law_bases", "_law_bases", defArgs s__law_bases, defBody s__law_bases, defScope s__law_bases, [], []⟩
abbrev s_law : Stmt := top 17
def d_law : He.DefD := ⟨("law", none), "law", "law", defArgs s_law, defBody s_law, defScope s_law, [], []⟩
def fn : List He.DefD := [d__law_source, d__law_pick, d__law_of, d__law_every, d__law_kinds, d__law_bases, d_law]
def fa : List He.Fa := [.glo "AnswerError", .glo "BadText", .glo "BadUse", .glo "NameMissing", .glo "NotOfIt", .glo "NothingDone", .glo "Refused", .glo "TooGreat", .glo "UnknownName", .glo "_law_bases", .glo "_law_every", .glo "_law_kinds", .glo "_law_of", .glo "_law_pick", .glo "_law_source", .glo "law", .free "ArithmeticError", .free "AttributeError", .free "IndexError", .free "KeyError", .free "LookupError", .free "RuntimeError", .free "TypeError", .free "ValueError", .free "abs", .free "int", .free "isinstance", .free "len", .free "max", .free "range", .free "repr", .free "super"]
def xs : List (Str × Hz.FnS) := [("BadText", some (("__init__" : Str), ("BadText.__init__" : Str), defArgs s_BadText_init, FuncBody.stmts (defBody s_BadText_init), defScope s_BadText_init, mainGlobals, [("__class__" : Str)], Value.none, builtinsNs)), ("BadUse", some (("__init__" : Str), ("BadUse.__init__" : Str), defArgs s_BadUse_init, FuncBody.stmts (defBody s_BadUse_init), defScope s_BadUse_init, mainGlobals, [("__class__" : Str)], Value.none, builtinsNs)), ("TooGreat", some (("__init__" : Str), ("TooGreat.__init__" : Str), defArgs s_TooGreat_init, FuncBody.stmts (defBody s_TooGreat_init), defScope s_TooGreat_init, mainGlobals, [("__class__" : Str)], Value.none, builtinsNs)), ("Refused", some (("__init__" : Str), ("Refused.__init__" : Str), defArgs s_Refused_init, FuncBody.stmts (defBody s_Refused_init), defScope s_Refused_init, mainGlobals, [("__class__" : Str)], Value.none, builtinsNs)), ("UnknownName", some (("__init__" : Str), ("UnknownName.__init__" : Str), defArgs s_UnknownName_init, FuncBody.stmts (defBody s_UnknownName_init), defScope s_UnknownName_init, mainGlobals, [("__class__" : Str)], Value.none, builtinsNs))]
def ex (K : PySem.W.Frag) : Bool := (Hz.excB PySem.Challenge.pw_answerrows_k00_errors K "BadText" "place") && (Hz.excB PySem.Challenge.pw_answerrows_k00_errors K "BadUse" "place") && (Hz.excB PySem.Challenge.pw_answerrows_k00_errors K "TooGreat" "row") && (Hz.excB PySem.Challenge.pw_answerrows_k00_errors K "Refused" "word") && (Hz.excLB PySem.Challenge.pw_answerrows_k00_errors K "UnknownName" "name") && (Hz.exc0B K "NotOfIt") && (Hz.exc0B K "NothingDone") && (Hz.isXB K ["BadText", "BadUse", "NotOfIt", "TooGreat", "Refused", "NothingDone", "UnknownName"] ["BadText"] (.ref (He.ga K "BadText"))) && (Hz.isXB K ["BadText", "BadUse", "NotOfIt", "TooGreat", "Refused", "NothingDone", "UnknownName"] ["BadUse"] (.ref (He.ga K "BadUse"))) && (Hz.isXB K ["BadText", "BadUse", "NotOfIt", "TooGreat", "Refused", "NothingDone", "UnknownName"] ["NotOfIt"] (.ref (He.ga K "NotOfIt"))) && (Hz.isXB K ["BadText", "BadUse", "NotOfIt", "TooGreat", "Refused", "NothingDone", "UnknownName"] ["TooGreat"] (.ref (He.ga K "TooGreat"))) && (Hz.isXB K ["BadText", "BadUse", "NotOfIt", "TooGreat", "Refused", "NothingDone", "UnknownName"] ["BadText", "BadUse", "NotOfIt", "TooGreat", "Refused", "NothingDone"] (.ref (He.ga K "AnswerError"))) && (Hz.isXB K ["BadText", "BadUse", "NotOfIt", "TooGreat", "Refused", "NothingDone", "UnknownName"] ["BadText", "BadUse", "NotOfIt", "TooGreat", "Refused", "NothingDone"] (.type "ValueError")) && (Hz.isXB K ["BadText", "BadUse", "NotOfIt", "TooGreat", "Refused", "NothingDone", "UnknownName"] ["UnknownName"] (.ref (He.ga K "NameMissing"))) && (Hz.isXB K ["BadText", "BadUse", "NotOfIt", "TooGreat", "Refused", "NothingDone", "UnknownName"] ["Refused"] (.ref (He.ga K "Refused"))) && (Hz.isXB K ["BadText", "BadUse", "NotOfIt", "TooGreat", "Refused", "NothingDone", "UnknownName"] ["NothingDone"] (.ref (He.ga K "NothingDone"))) && (Hz.isXB K ["BadText", "BadUse", "NotOfIt", "TooGreat", "Refused", "NothingDone", "UnknownName"] ["UnknownName"] (.ref (He.ga K "UnknownName"))) && (Hz.isXB K ["BadText", "BadUse", "NotOfIt", "TooGreat", "Refused", "NothingDone", "UnknownName"] ["UnknownName"] (.type "LookupError")) && (Hz.isXT K ["BadText", "BadUse", "NotOfIt", "TooGreat", "Refused", "NothingDone", "UnknownName"] [] [.type "KeyError", .type "IndexError", .type "TypeError"]) && (Hz.isXT K ["BadText", "BadUse", "NotOfIt", "TooGreat", "Refused", "NothingDone", "UnknownName"] [] [.type "ArithmeticError", .type "RuntimeError", .type "AttributeError"]) && (Hz.fldB K ["BadText", "BadUse", "NotOfIt", "TooGreat", "Refused", "NothingDone", "UnknownName"] "place") && (Hz.fldB K ["BadText", "BadUse", "NotOfIt", "TooGreat", "Refused", "NothingDone", "UnknownName"] "row") && (Hz.fldB K ["BadText", "BadUse", "NotOfIt", "TooGreat", "Refused", "NothingDone", "UnknownName"] "word") && (Hz.fldB K ["BadText", "BadUse", "NotOfIt", "TooGreat", "Refused", "NothingDone", "UnknownName"] "name") && (Hz.sysB K)
def loose : List Str := ["AnswerError", "NameMissing", "BadText", "BadUse", "NotOfIt", "TooGreat", "Refused", "NothingDone", "UnknownName", "_law_source", "_law_pick", "_law_of", "_law_every", "_law_kinds", "_law_bases"]
abbrev R : PySem.W.OpenRow := PySem.W.OpenLaw.row PySem.Challenge.rw_answerrows_k00_errors
def mks : Hz.Mk := []
abbrev hk : PySem.W.Hook := Hz.hookT 5 fa fn ex xs mks
def ob (s : PySem.W.SharedT) : Hz.AlT := Hz.obsT 5 fa fn ex xs mks (HandSHeadRun.getT s)
theorem ob_eq (s : PySem.W.SharedT) : ob s = hk.obs s.abs := Hz.obsT_eq (HandSHeadRun.getT_eq s)
theorem run (w : World) : HandSHeadRun.RunEq R (PySem.W.view R.prog [17]) hk ob 4000 loose w := by
  intro os
  kernel_rfl
end Hd
-- law at 17, rw rw_answerrows_k00_errors

namespace Lw
noncomputable section
open PySem PySem.Spec L2 Ev
open PyProof.Rows hiding St
open NdefX
variable [Tb]
structure Fx (P : Program) (K : PySem.W.Frag) (mg : Str → Option Value) : Prop where
  f_ArithmeticError : mg "ArithmeticError" = none
  f_AttributeError : mg "AttributeError" = none
  f_IndexError : mg "IndexError" = none
  f_KeyError : mg "KeyError" = none
  f_LookupError : mg "LookupError" = none
  f_RuntimeError : mg "RuntimeError" = none
  f_TypeError : mg "TypeError" = none
  f_ValueError : mg "ValueError" = none
  f_abs : mg "abs" = none
  f_int : mg "int" = none
  f_isinstance : mg "isinstance" = none
  f_len : mg "len" = none
  f_max : mg "max" = none
  f_range : mg "range" = none
  f_repr : mg "repr" = none
  f_super : mg "super" = none
  v_BadText : ExV P K mg "BadText" "place"
  v_BadUse : ExV P K mg "BadUse" "place"
  w_NotOfIt : ExW K mg "NotOfIt"
  v_TooGreat : ExV P K mg "TooGreat" "row"
  v_Refused : ExV P K mg "Refused" "word"
  w_NothingDone : ExW K mg "NothingDone"
  v_UnknownName : ExV P K mg "UnknownName" "name"
  c_BadText : mg "BadText" = some (.ref (He.ga K "BadText"))
  i_BadText : ∀ n ∈ (["BadText", "BadUse", "NotOfIt", "TooGreat", "Refused", "NothingDone", "UnknownName"] : List Str), ∀ C, PySem.W.nsIn K mainGlobals n = some (some (.ref C)) → ExcCk K C ∧ PySem.W.kitOne K (.ref C) (.ref (He.ga K "BadText")) = some (decide (n ∈ (["BadText"] : List Str)))
  c_BadUse : mg "BadUse" = some (.ref (He.ga K "BadUse"))
  i_BadUse : ∀ n ∈ (["BadText", "BadUse", "NotOfIt", "TooGreat", "Refused", "NothingDone", "UnknownName"] : List Str), ∀ C, PySem.W.nsIn K mainGlobals n = some (some (.ref C)) → ExcCk K C ∧ PySem.W.kitOne K (.ref C) (.ref (He.ga K "BadUse")) = some (decide (n ∈ (["BadUse"] : List Str)))
  c_NotOfIt : mg "NotOfIt" = some (.ref (He.ga K "NotOfIt"))
  i_NotOfIt : ∀ n ∈ (["BadText", "BadUse", "NotOfIt", "TooGreat", "Refused", "NothingDone", "UnknownName"] : List Str), ∀ C, PySem.W.nsIn K mainGlobals n = some (some (.ref C)) → ExcCk K C ∧ PySem.W.kitOne K (.ref C) (.ref (He.ga K "NotOfIt")) = some (decide (n ∈ (["NotOfIt"] : List Str)))
  c_TooGreat : mg "TooGreat" = some (.ref (He.ga K "TooGreat"))
  i_TooGreat : ∀ n ∈ (["BadText", "BadUse", "NotOfIt", "TooGreat", "Refused", "NothingDone", "UnknownName"] : List Str), ∀ C, PySem.W.nsIn K mainGlobals n = some (some (.ref C)) → ExcCk K C ∧ PySem.W.kitOne K (.ref C) (.ref (He.ga K "TooGreat")) = some (decide (n ∈ (["TooGreat"] : List Str)))
  c_AnswerError : mg "AnswerError" = some (.ref (He.ga K "AnswerError"))
  i_AnswerError : ∀ n ∈ (["BadText", "BadUse", "NotOfIt", "TooGreat", "Refused", "NothingDone", "UnknownName"] : List Str), ∀ C, PySem.W.nsIn K mainGlobals n = some (some (.ref C)) → ExcCk K C ∧ PySem.W.kitOne K (.ref C) (.ref (He.ga K "AnswerError")) = some (decide (n ∈ (["BadText", "BadUse", "NotOfIt", "TooGreat", "Refused", "NothingDone"] : List Str)))
  i_ValueError : ∀ n ∈ (["BadText", "BadUse", "NotOfIt", "TooGreat", "Refused", "NothingDone", "UnknownName"] : List Str), ∀ C, PySem.W.nsIn K mainGlobals n = some (some (.ref C)) → ExcCk K C ∧ PySem.W.kitOne K (.ref C) (.type "ValueError") = some (decide (n ∈ (["BadText", "BadUse", "NotOfIt", "TooGreat", "Refused", "NothingDone"] : List Str)))
  c_NameMissing : mg "NameMissing" = some (.ref (He.ga K "NameMissing"))
  i_NameMissing : ∀ n ∈ (["BadText", "BadUse", "NotOfIt", "TooGreat", "Refused", "NothingDone", "UnknownName"] : List Str), ∀ C, PySem.W.nsIn K mainGlobals n = some (some (.ref C)) → ExcCk K C ∧ PySem.W.kitOne K (.ref C) (.ref (He.ga K "NameMissing")) = some (decide (n ∈ (["UnknownName"] : List Str)))
  c_Refused : mg "Refused" = some (.ref (He.ga K "Refused"))
  i_Refused : ∀ n ∈ (["BadText", "BadUse", "NotOfIt", "TooGreat", "Refused", "NothingDone", "UnknownName"] : List Str), ∀ C, PySem.W.nsIn K mainGlobals n = some (some (.ref C)) → ExcCk K C ∧ PySem.W.kitOne K (.ref C) (.ref (He.ga K "Refused")) = some (decide (n ∈ (["Refused"] : List Str)))
  c_NothingDone : mg "NothingDone" = some (.ref (He.ga K "NothingDone"))
  i_NothingDone : ∀ n ∈ (["BadText", "BadUse", "NotOfIt", "TooGreat", "Refused", "NothingDone", "UnknownName"] : List Str), ∀ C, PySem.W.nsIn K mainGlobals n = some (some (.ref C)) → ExcCk K C ∧ PySem.W.kitOne K (.ref C) (.ref (He.ga K "NothingDone")) = some (decide (n ∈ (["NothingDone"] : List Str)))
  c_UnknownName : mg "UnknownName" = some (.ref (He.ga K "UnknownName"))
  i_UnknownName : ∀ n ∈ (["BadText", "BadUse", "NotOfIt", "TooGreat", "Refused", "NothingDone", "UnknownName"] : List Str), ∀ C, PySem.W.nsIn K mainGlobals n = some (some (.ref C)) → ExcCk K C ∧ PySem.W.kitOne K (.ref C) (.ref (He.ga K "UnknownName")) = some (decide (n ∈ (["UnknownName"] : List Str)))
  i_LookupError : ∀ n ∈ (["BadText", "BadUse", "NotOfIt", "TooGreat", "Refused", "NothingDone", "UnknownName"] : List Str), ∀ C, PySem.W.nsIn K mainGlobals n = some (some (.ref C)) → ExcCk K C ∧ PySem.W.kitOne K (.ref C) (.type "LookupError") = some (decide (n ∈ (["UnknownName"] : List Str)))
  t_0 : ∀ n ∈ (["BadText", "BadUse", "NotOfIt", "TooGreat", "Refused", "NothingDone", "UnknownName"] : List Str), ∀ C, PySem.W.nsIn K mainGlobals n = some (some (.ref C)) → ExcCk K C ∧ PySem.W.kitAny K (.ref C) [.type "KeyError", .type "IndexError", .type "TypeError"] = some (decide (n ∈ ([] : List Str)))
  t_1 : ∀ n ∈ (["BadText", "BadUse", "NotOfIt", "TooGreat", "Refused", "NothingDone", "UnknownName"] : List Str), ∀ C, PySem.W.nsIn K mainGlobals n = some (some (.ref C)) → ExcCk K C ∧ PySem.W.kitAny K (.ref C) [.type "ArithmeticError", .type "RuntimeError", .type "AttributeError"] = some (decide (n ∈ ([] : List Str)))
  fld_place : ∀ n ∈ (["BadText", "BadUse", "NotOfIt", "TooGreat", "Refused", "NothingDone", "UnknownName"] : List Str), ∀ C, PySem.W.nsIn K mainGlobals n = some (some (.ref C)) → XfC K C ∧ PySem.W.findIn K (.ref C) "place" = some none
  fld_row : ∀ n ∈ (["BadText", "BadUse", "NotOfIt", "TooGreat", "Refused", "NothingDone", "UnknownName"] : List Str), ∀ C, PySem.W.nsIn K mainGlobals n = some (some (.ref C)) → XfC K C ∧ PySem.W.findIn K (.ref C) "row" = some none
  fld_word : ∀ n ∈ (["BadText", "BadUse", "NotOfIt", "TooGreat", "Refused", "NothingDone", "UnknownName"] : List Str), ∀ C, PySem.W.nsIn K mainGlobals n = some (some (.ref C)) → XfC K C ∧ PySem.W.findIn K (.ref C) "word" = some none
  fld_name : ∀ n ∈ (["BadText", "BadUse", "NotOfIt", "TooGreat", "Refused", "NothingDone", "UnknownName"] : List Str), ∀ C, PySem.W.nsIn K mainGlobals n = some (some (.ref C)) → XfC K C ∧ PySem.W.findIn K (.ref C) "name" = some none
  sys : ∃ o, K.lookup sysModules = some o ∧ o.cls = .type "dict"
def m__law_source : M Flw :=
 (sSeq (sSet (gName 1) (eDat (.int 11)))
 (sSeq (sFor (itScr 0) (gName 2)
 (sSet (gName 1) (eOp (g2 (gBin .Mod)) [(eOp (g1 gInt) [(eOp (g2 (gBin .Add)) [(eOp (g2 (gBin .Add)) [(eOp (g2 (gBin .Mult)) [(eSlot 1), (eDat (.int 69069))]), (eOp (g2 (gBin .Mult)) [(eSlot 2), (eDat (.int 31))])]), (eDat (.int 5))])]), (eDat (.int 2147483629))])))
 (sRet 1 (eSrcNew (eOp (g1 gRevX) [(eComp (itScr 0) (gName 2) (ret true) (eOp (g1 gAbs) [(eSlot 2)]) [2])]) (eSlot 1)))))
def F__law_source : FN := fnOf 1 2 [1, 2] m__law_source
theorem sc__law_source : FnScope ["script", "mixed", "cell"] ["script"] (defScope Hd.s__law_source) := ⟨rfl, rfl, rfl, by decide +kernel, rfl, by decide +kernel, by decide +kernel⟩
theorem c__law_source {P : Program} {w : World} {K : PySem.W.Frag} {mg : Str → Option Value} {base : Heap} {f : Addr} {fd : FuncData} (fx : Fx P K mg)  (Fd : FunD K "_law_source" "_law_source" (defArgs Hd.s__law_source) (defBody Hd.s__law_source) (defScope Hd.s__law_source) [] [] f fd) (hmg : mg "_law_source" = some (.ref f)) :
    CalF P w K mg base 1 "_law_source" 1 F__law_source := by
  have hN := sc__law_source.nd
  refine cal_fn (N := ["script", "mixed", "cell"]) Fd sc__law_source rfl rfl hmg (Fd.bindsN fun _ _ _ _ _ _ us hl => match us, hl with | [_], _ => rfl) fun cdv A outer s H E hG hr W tk => ?_
  have hu64 := hr.units
  have hu65 : (A.deeper (PyProof.Rows.envOfC "_law_source" (defScope Hd.s__law_source) s.heap.objs.size f cdv)).units + 65 < cLine := by have := hr.un; omega
  have hu66 : (A.deeper (PyProof.Rows.envOfC "_law_source" (defScope Hd.s__law_source) s.heap.objs.size f cdv)).units + 66 < cLine := by have := hr.un; omega
  exact (ss_cons (ss_set (i := 1) hN rfl (by first | exact .inl rfl | exact .inr rfl) (by first | exact .inl rfl | exact .inr rfl) (by decide) se_int (by first | rfl | exact swaps_no rfl _ _ _))
 (ss_cons (ss_for (by decide) (passes_of rfl) rfl (si_scr (i := 0) rfl (by first | exact .inl rfl | exact .inr (.inl rfl) | exact .inr (.inr rfl)) rfl rfl) (sg_name (i := 2) hN rfl (by first | exact .inl rfl | exact .inr rfl) (by first | exact .inl rfl | exact .inr rfl))
 (ss_one (ss_set (i := 1) hN rfl (by first | exact .inl rfl | exact .inr rfl) (by first | exact .inl rfl | exact .inr rfl) (by decide) (se_bin (se_callTy br_int rfl fx.f_int rfl rfl (sa_cons rfl (se_bin (se_bin (se_bin (se_name (i := 1) rfl (by first | exact .inl rfl | exact .inr (.inl rfl) | exact .inr (.inr rfl)) rfl rfl) se_int) (se_bin (se_name (i := 2) rfl (by first | exact .inl rfl | exact .inr (.inl rfl) | exact .inr (.inr rfl)) rfl rfl) se_int)) se_int) sa_nil) (by decide) rfl rfl) se_int) (by first | rfl | exact swaps_no rfl _ _ _))) (fun _ => rfl))
 (ss_one (ss_ret (np := 1) (se_srcNew (se_rev (se_comp (own := [("cell", 2)]) rfl hN (by decide) (by decide) (blkOk_by (by rfl)) (si_scr (i := 0) rfl (by first | exact .inl rfl | exact .inr (.inl rfl) | exact .inr (.inr rfl)) rfl rfl) (fun _ _ _ _ _ => (sg_name (i := 2) hN rfl (by first | exact .inl rfl | exact .inr rfl) (by first | exact .inl rfl | exact .inr rfl))) (fun _ _ _ _ _ => sts_nil) (fun _ _ _ _ _ => (se_callB br_abs rfl fx.f_abs rfl rfl (sa_cons rfl (se_name (i := 2) rfl (by first | exact .inl rfl | exact .inr (.inl rfl) | exact .inr (.inr rfl)) rfl rfl) sa_nil) (by decide) rfl rfl)) (fun _ => rfl))) (se_name (i := 1) rfl (by first | exact .inl rfl | exact .inr (.inl rfl) | exact .inr (.inr rfl)) rfl rfl))))))

def m__law_pick : M Flw :=
 (sSeq (mWhile (tAnd (tOf (eOp (gB2 (gCmp .Gt)) [(eSlot 1), (eDat (.int 1))])) (tAnd (tOf (eOp (gB2 (gCmp .Lt)) [(eSrcGet "left" 0), (eDat (.int 2))])) (tOf (eOp (gB2 (gCmp .Gt)) [(eSrcLen 0), (eDat (.int 0))]))))
 (sSrcSet "left" 0 (eSrcPop 0)))
 (sSeq (sSet (gName 2) (eSrcGet "left" 0))
 (sSeq (mIf (tOr (tOf (eOp (gB2 (gCmp .Lt)) [(eSlot 1), (eDat (.int 2))])) (tOf (eOp (gB2 (gCmp .Gt)) [(eSlot 2), (eDat (.int 1))])))
 (sSeq (sSrcSet "left" 0 (eOp (g2 (gBin .FloorDiv)) [(eSlot 2), (eOp (g2 gMax) [(eDat (.int 1)), (eSlot 1)])]))
 (sRet 2 (eOp (g2 (gBin .Mod)) [(eOp (g1 gInt) [(eSlot 2)]), (eOp (g2 gMax) [(eDat (.int 1)), (eSlot 1)])])))
 (ret .nx))
 (sSeq (sSrcSet "turn" 0 (eOp (g2 (gBin .Add)) [(eSrcGet "turn" 0), (eDat (.int 1))]))
 (sSeq (sSet (gName 3) (eOp (g2 (gBin .Mod)) [(eOp (g1 gInt) [(eOp (g2 (gBin .Add)) [(eSrcGet "mixed" 0), (eOp (g2 (gBin .Mult)) [(eSrcGet "turn" 0), (eDat (.int 104729))])])]), (eDat (.int 998244353))]))
 (sSeq (sSet (gName 3) (eOp (g2 (gBin .Mod)) [(eOp (g1 gInt) [(eOp (g2 (gBin .Add)) [(eOp (g2 (gBin .Mult)) [(eSlot 3), (eSlot 3)]), (eOp (g2 (gBin .Mult)) [(eSrcGet "turn" 0), (eDat (.int 17))])])]), (eDat (.int 2147483647))]))
 (sSeq (sSrcSet "mixed" 0 (eSlot 3))
 (sRet 2 (eOp (g2 (gBin .Mod)) [(eOp (g1 gInt) [(eOp (g2 (gBin .FloorDiv)) [(eSlot 3), (eDat (.int 16))])]), (eSlot 1)])))))))))
def F__law_pick : FN := fnOf 2 2 [2, 3] m__law_pick
theorem sc__law_pick : FnScope ["source", "many", "left", "mixed"] ["source", "many"] (defScope Hd.s__law_pick) := ⟨rfl, rfl, rfl, by decide +kernel, rfl, by decide +kernel, by decide +kernel⟩
theorem c__law_pick {P : Program} {w : World} {K : PySem.W.Frag} {mg : Str → Option Value} {base : Heap} {f : Addr} {fd : FuncData} (fx : Fx P K mg)  (Fd : FunD K "_law_pick" "_law_pick" (defArgs Hd.s__law_pick) (defBody Hd.s__law_pick) (defScope Hd.s__law_pick) [] [] f fd) (hmg : mg "_law_pick" = some (.ref f)) :
    CalF P w K mg base 1 "_law_pick" 2 F__law_pick := by
  have hN := sc__law_pick.nd
  refine cal_fn (N := ["source", "many", "left", "mixed"]) Fd sc__law_pick rfl rfl hmg (Fd.bindsN fun _ _ _ _ _ _ us hl => match us, hl with | [_, _], _ => rfl) fun cdv A outer s H E hG hr W tk => ?_
  have hu64 := hr.units
  have hu65 : (A.deeper (PyProof.Rows.envOfC "_law_pick" (defScope Hd.s__law_pick) s.heap.objs.size f cdv)).units + 65 < cLine := by have := hr.un; omega
  have hu66 : (A.deeper (PyProof.Rows.envOfC "_law_pick" (defScope Hd.s__law_pick) s.heap.objs.size f cdv)).units + 66 < cLine := by have := hr.un; omega
  exact (ss_cons (ss_while (passes_of rfl) (L2.PW.pt (sw_and (st_cmp hu65 rfl (se_name (i := 1) rfl (by first | exact .inl rfl | exact .inr (.inl rfl) | exact .inr (.inr rfl)) rfl rfl) se_int) (sw_and (st_cmp hu65 rfl (se_srcGet (i := 0) hu64 rfl (by first | exact .inl rfl | exact .inr (.inl rfl) | exact .inr (.inr rfl)) rfl rfl) se_int) (sw_and1 (st_cmp hu65 rfl (se_srcLen (i := 0) hu64 rfl (by first | exact .inl rfl | exact .inr (.inl rfl) | exact .inr (.inr rfl)) rfl rfl rfl rfl fx.f_len) se_int)))))
 (ss_one (ss_srcSet (i := 0) hu64 rfl (by first | exact .inl rfl | exact .inr (.inl rfl) | exact .inr (.inr rfl)) rfl rfl (se_srcPop (i := 0) hu64 rfl (by first | exact .inl rfl | exact .inr (.inl rfl) | exact .inr (.inr rfl)) rfl rfl rfl rfl) rfl)))
 (ss_cons (ss_set (i := 2) hN rfl (by first | exact .inl rfl | exact .inr rfl) (by first | exact .inl rfl | exact .inr rfl) (by decide) (se_srcGet (i := 0) hu64 rfl (by first | exact .inl rfl | exact .inr (.inl rfl) | exact .inr (.inr rfl)) rfl rfl) (by first | rfl | exact swaps_no rfl _ _ _))
 (ss_cons (ss_if (L2.PW.pt (sw_or (st_cmp hu65 rfl (se_name (i := 1) rfl (by first | exact .inl rfl | exact .inr (.inl rfl) | exact .inr (.inr rfl)) rfl rfl) se_int) (sw_or1 (st_cmp hu65 rfl (se_name (i := 2) rfl (by first | exact .inl rfl | exact .inr (.inl rfl) | exact .inr (.inr rfl)) rfl rfl) se_int))))
 (ss_cons (ss_srcSet (i := 0) hu64 rfl (by first | exact .inl rfl | exact .inr (.inl rfl) | exact .inr (.inr rfl)) rfl rfl (se_bin (se_name (i := 2) rfl (by first | exact .inl rfl | exact .inr (.inl rfl) | exact .inr (.inr rfl)) rfl rfl) (se_callB (br_max rfl) rfl fx.f_max rfl rfl (sa_cons rfl se_int (sa_cons rfl (se_name (i := 1) rfl (by first | exact .inl rfl | exact .inr (.inl rfl) | exact .inr (.inr rfl)) rfl rfl) sa_nil)) (by decide) rfl rfl)) rfl)
 (ss_one (ss_ret (np := 2) (se_bin (se_callTy br_int rfl fx.f_int rfl rfl (sa_cons rfl (se_name (i := 2) rfl (by first | exact .inl rfl | exact .inr (.inl rfl) | exact .inr (.inr rfl)) rfl rfl) sa_nil) (by decide) rfl rfl) (se_callB (br_max rfl) rfl fx.f_max rfl rfl (sa_cons rfl se_int (sa_cons rfl (se_name (i := 1) rfl (by first | exact .inl rfl | exact .inr (.inl rfl) | exact .inr (.inr rfl)) rfl rfl) sa_nil)) (by decide) rfl rfl)))))
 ss_nil)
 (ss_cons (ss_srcSet (i := 0) hu64 rfl (by first | exact .inl rfl | exact .inr (.inl rfl) | exact .inr (.inr rfl)) rfl rfl (se_bin (se_srcGet (i := 0) hu64 rfl (by first | exact .inl rfl | exact .inr (.inl rfl) | exact .inr (.inr rfl)) rfl rfl) se_int) rfl)
 (ss_cons (ss_set (i := 3) hN rfl (by first | exact .inl rfl | exact .inr rfl) (by first | exact .inl rfl | exact .inr rfl) (by decide) (se_bin (se_callTy br_int rfl fx.f_int rfl rfl (sa_cons rfl (se_bin (se_srcGet (i := 0) hu64 rfl (by first | exact .inl rfl | exact .inr (.inl rfl) | exact .inr (.inr rfl)) rfl rfl) (se_bin (se_srcGet (i := 0) hu64 rfl (by first | exact .inl rfl | exact .inr (.inl rfl) | exact .inr (.inr rfl)) rfl rfl) se_int)) sa_nil) (by decide) rfl rfl) se_int) (by first | rfl | exact swaps_no rfl _ _ _))
 (ss_cons (ss_set (i := 3) hN rfl (by first | exact .inl rfl | exact .inr rfl) (by first | exact .inl rfl | exact .inr rfl) (by decide) (se_bin (se_callTy br_int rfl fx.f_int rfl rfl (sa_cons rfl (se_bin (se_bin (se_name (i := 3) rfl (by first | exact .inl rfl | exact .inr (.inl rfl) | exact .inr (.inr rfl)) rfl rfl) (se_name (i := 3) rfl (by first | exact .inl rfl | exact .inr (.inl rfl) | exact .inr (.inr rfl)) rfl rfl)) (se_bin (se_srcGet (i := 0) hu64 rfl (by first | exact .inl rfl | exact .inr (.inl rfl) | exact .inr (.inr rfl)) rfl rfl) se_int)) sa_nil) (by decide) rfl rfl) se_int) (by first | rfl | exact swaps_no rfl _ _ _))
 (ss_cons (ss_srcSet (i := 0) hu64 rfl (by first | exact .inl rfl | exact .inr (.inl rfl) | exact .inr (.inr rfl)) rfl rfl (se_name (i := 3) rfl (by first | exact .inl rfl | exact .inr (.inl rfl) | exact .inr (.inr rfl)) rfl rfl) rfl)
 (ss_one (ss_ret (np := 2) (se_bin (se_callTy br_int rfl fx.f_int rfl rfl (sa_cons rfl (se_bin (se_name (i := 3) rfl (by first | exact .inl rfl | exact .inr (.inl rfl) | exact .inr (.inr rfl)) rfl rfl) se_int) sa_nil) (by decide) rfl rfl) (se_name (i := 1) rfl (by first | exact .inl rfl | exact .inr (.inl rfl) | exact .inr (.inr rfl)) rfl rfl)))))))))))

def m__law_of : M Flw :=
 (sRet 2 (eOp (g2 gIdx) [(eSlot 1), (eCall F__law_pick (evs [(eSlot 0), (eOp (g1 gLen) [(eSlot 1)])]))]))
def F__law_of : FN := fnOf 2 0 [] m__law_of
theorem sc__law_of : FnScope ["source", "some"] ["source", "some"] (defScope Hd.s__law_of) := ⟨rfl, rfl, rfl, by decide +kernel, rfl, by decide +kernel, by decide +kernel⟩
theorem c__law_of {P : Program} {w : World} {K : PySem.W.Frag} {mg : Str → Option Value} {base : Heap} {f : Addr} {fd : FuncData} (fx : Fx P K mg) (c__law_pick : CalF P w K mg base 1 "_law_pick" 2 F__law_pick) (Fd : FunD K "_law_of" "_law_of" (defArgs Hd.s__law_of) (defBody Hd.s__law_of) (defScope Hd.s__law_of) [] [] f fd) (hmg : mg "_law_of" = some (.ref f)) :
    CalF P w K mg base 2 "_law_of" 2 F__law_of := by
  have hN := sc__law_of.nd
  refine cal_fn (N := ["source", "some"]) Fd sc__law_of rfl rfl hmg (Fd.bindsN fun _ _ _ _ _ _ us hl => match us, hl with | [_, _], _ => rfl) fun cdv A outer s H E hG hr W tk => ?_
  have hu64 := hr.units
  have hu65 : (A.deeper (PyProof.Rows.envOfC "_law_of" (defScope Hd.s__law_of) s.heap.objs.size f cdv)).units + 65 < cLine := by have := hr.un; omega
  have hu66 : (A.deeper (PyProof.Rows.envOfC "_law_of" (defScope Hd.s__law_of) s.heap.objs.size f cdv)).units + 66 < cLine := by have := hr.un; omega
  exact (ss_one (ss_ret (np := 2) (se_idx rfl (se_name (i := 1) rfl (by first | exact .inl rfl | exact .inr (.inl rfl) | exact .inr (.inr rfl)) rfl rfl) (se_call c__law_pick tk hG (hr.mono (by decide)) rfl (sa_cons rfl (se_name (i := 0) rfl (by first | exact .inl rfl | exact .inr (.inl rfl) | exact .inr (.inr rfl)) rfl rfl) (sa_cons rfl (se_callB br_len rfl fx.f_len rfl rfl (sa_cons rfl (se_name (i := 1) rfl (by first | exact .inl rfl | exact .inr (.inl rfl) | exact .inr (.inr rfl)) rfl rfl) sa_nil) (by decide) rfl rfl) sa_nil)) rfl rfl rfl))))

def m__law_every : M Flw :=
 (sSeq (sSet (gName 4) (eLst [(false, (eXmk "BadText" "place" (eSlot 0))), (false, (eXmk "BadUse" "place" (eOp (g2 (gBin .Add)) [(eSlot 0), (eDat (.int 1))]))), (false, (eXmk0 "NotOfIt")), (false, (eXmk "TooGreat" "row" (eSlot 1))), (false, (eXmk "Refused" "word" (eSlot 2))), (false, (eXmk0 "NothingDone"))]))
 (sRet 4 (eOp (g2 (gBin .Add)) [(eSlot 4), (eLst [(false, (eXmk "UnknownName" "name" (eSlot 3)))])])))
def F__law_every : FN := fnOf 4 1 [4] m__law_every
theorem sc__law_every : FnScope ["place", "row", "word", "name", "found"] ["place", "row", "word", "name"] (defScope Hd.s__law_every) := ⟨rfl, rfl, rfl, by decide +kernel, rfl, by decide +kernel, by decide +kernel⟩
theorem c__law_every {P : Program} {w : World} {K : PySem.W.Frag} {mg : Str → Option Value} {base : Heap} {f : Addr} {fd : FuncData} (fx : Fx P K mg)  (Fd : FunD K "_law_every" "_law_every" (defArgs Hd.s__law_every) (defBody Hd.s__law_every) (defScope Hd.s__law_every) [] [] f fd) (hmg : mg "_law_every" = some (.ref f)) :
    CalF P w K mg base 1 "_law_every" 4 F__law_every := by
  have hN := sc__law_every.nd
  refine cal_fn (N := ["place", "row", "word", "name", "found"]) Fd sc__law_every rfl rfl hmg (Fd.bindsN fun _ _ _ _ _ _ us hl => match us, hl with | [_, _, _, _], _ => rfl) fun cdv A outer s H E hG hr W tk => ?_
  have hu64 := hr.units
  have hu65 : (A.deeper (PyProof.Rows.envOfC "_law_every" (defScope Hd.s__law_every) s.heap.objs.size f cdv)).units + 65 < cLine := by have := hr.un; omega
  have hu66 : (A.deeper (PyProof.Rows.envOfC "_law_every" (defScope Hd.s__law_every) s.heap.objs.size f cdv)).units + 66 < cLine := by have := hr.un; omega
  exact (ss_cons (ss_set (i := 4) hN rfl (by first | exact .inl rfl | exact .inr rfl) (by first | exact .inl rfl | exact .inr rfl) (by decide) (se_lst (saS_cons rfl (se_xmk fx.v_BadText fx.f_super hr (se_name (i := 0) rfl (by first | exact .inl rfl | exact .inr (.inl rfl) | exact .inr (.inr rfl)) rfl rfl) rfl rfl rfl) (saS_cons rfl (se_xmk fx.v_BadUse fx.f_super hr (se_bin (se_name (i := 0) rfl (by first | exact .inl rfl | exact .inr (.inl rfl) | exact .inr (.inr rfl)) rfl rfl) se_int) rfl rfl rfl) (saS_cons rfl (se_xmk0 fx.w_NotOfIt rfl rfl) (saS_cons rfl (se_xmk fx.v_TooGreat fx.f_super hr (se_name (i := 1) rfl (by first | exact .inl rfl | exact .inr (.inl rfl) | exact .inr (.inr rfl)) rfl rfl) rfl rfl rfl) (saS_cons rfl (se_xmk fx.v_Refused fx.f_super hr (se_name (i := 2) rfl (by first | exact .inl rfl | exact .inr (.inl rfl) | exact .inr (.inr rfl)) rfl rfl) rfl rfl rfl) (saS_cons rfl (se_xmk0 fx.w_NothingDone rfl rfl) saS_nil))))))) (by first | rfl | exact swaps_no rfl _ _ _))
 (ss_one (ss_ret (np := 4) (se_bin (se_name (i := 4) rfl (by first | exact .inl rfl | exact .inr (.inl rfl) | exact .inr (.inr rfl)) rfl rfl) (se_lst (saS_cons rfl (se_xmk fx.v_UnknownName fx.f_super hr (se_name (i := 3) rfl (by first | exact .inl rfl | exact .inr (.inl rfl) | exact .inr (.inr rfl)) rfl rfl) rfl rfl rfl) saS_nil))))))

def m__law_kinds : M Flw :=
 (sSeq (sSet (gName 1) (eLst [(false, (eOp (g1 (gIsX ["BadText", "BadUse", "NotOfIt", "TooGreat", "Refused", "NothingDone", "UnknownName"] ["BadText"])) [(eSlot 0)])), (false, (eOp (g1 (gIsX ["BadText", "BadUse", "NotOfIt", "TooGreat", "Refused", "NothingDone", "UnknownName"] ["BadUse"])) [(eSlot 0)])), (false, (eOp (g1 (gIsX ["BadText", "BadUse", "NotOfIt", "TooGreat", "Refused", "NothingDone", "UnknownName"] ["NotOfIt"])) [(eSlot 0)])), (false, (eOp (g1 (gIsX ["BadText", "BadUse", "NotOfIt", "TooGreat", "Refused", "NothingDone", "UnknownName"] ["TooGreat"])) [(eSlot 0)]))]))
 (sRet 1 (eOp (g2 (gBin .Add)) [(eSlot 1), (eLst [(false, (eOp (g1 (gIsX ["BadText", "BadUse", "NotOfIt", "TooGreat", "Refused", "NothingDone", "UnknownName"] ["Refused"])) [(eSlot 0)])), (false, (eOp (g1 (gIsX ["BadText", "BadUse", "NotOfIt", "TooGreat", "Refused", "NothingDone", "UnknownName"] ["NothingDone"])) [(eSlot 0)])), (false, (eOp (g1 (gIsX ["BadText", "BadUse", "NotOfIt", "TooGreat", "Refused", "NothingDone", "UnknownName"] ["UnknownName"])) [(eSlot 0)]))])])))
def F__law_kinds : FN := fnOf 1 1 [1] m__law_kinds
theorem sc__law_kinds : FnScope ["e", "found"] ["e"] (defScope Hd.s__law_kinds) := ⟨rfl, rfl, rfl, by decide +kernel, rfl, by decide +kernel, by decide +kernel⟩
theorem c__law_kinds {P : Program} {w : World} {K : PySem.W.Frag} {mg : Str → Option Value} {base : Heap} {f : Addr} {fd : FuncData} (fx : Fx P K mg)  (Fd : FunD K "_law_kinds" "_law_kinds" (defArgs Hd.s__law_kinds) (defBody Hd.s__law_kinds) (defScope Hd.s__law_kinds) [] [] f fd) (hmg : mg "_law_kinds" = some (.ref f)) :
    CalF P w K mg base 1 "_law_kinds" 1 F__law_kinds := by
  have hN := sc__law_kinds.nd
  refine cal_fn (N := ["e", "found"]) Fd sc__law_kinds rfl rfl hmg (Fd.bindsN fun _ _ _ _ _ _ us hl => match us, hl with | [_], _ => rfl) fun cdv A outer s H E hG hr W tk => ?_
  have hu64 := hr.units
  have hu65 : (A.deeper (PyProof.Rows.envOfC "_law_kinds" (defScope Hd.s__law_kinds) s.heap.objs.size f cdv)).units + 65 < cLine := by have := hr.un; omega
  have hu66 : (A.deeper (PyProof.Rows.envOfC "_law_kinds" (defScope Hd.s__law_kinds) s.heap.objs.size f cdv)).units + 66 < cLine := by have := hr.un; omega
  exact (ss_cons (ss_set (i := 1) hN rfl (by first | exact .inl rfl | exact .inr rfl) (by first | exact .inl rfl | exact .inr rfl) (by decide) (se_lst (saS_cons rfl (se_isX1 (.own _) fx.i_BadText rfl fx.f_isinstance rfl (by decide) rfl rfl (se_name (i := 0) rfl (by first | exact .inl rfl | exact .inr (.inl rfl) | exact .inr (.inr rfl)) rfl rfl) (pe_own rfl fx.c_BadText rfl)) (saS_cons rfl (se_isX1 (.own _) fx.i_BadUse rfl fx.f_isinstance rfl (by decide) rfl rfl (se_name (i := 0) rfl (by first | exact .inl rfl | exact .inr (.inl rfl) | exact .inr (.inr rfl)) rfl rfl) (pe_own rfl fx.c_BadUse rfl)) (saS_cons rfl (se_isX1 (.own _) fx.i_NotOfIt rfl fx.f_isinstance rfl (by decide) rfl rfl (se_name (i := 0) rfl (by first | exact .inl rfl | exact .inr (.inl rfl) | exact .inr (.inr rfl)) rfl rfl) (pe_own rfl fx.c_NotOfIt rfl)) (saS_cons rfl (se_isX1 (.own _) fx.i_TooGreat rfl fx.f_isinstance rfl (by decide) rfl rfl (se_name (i := 0) rfl (by first | exact .inl rfl | exact .inr (.inl rfl) | exact .inr (.inr rfl)) rfl rfl) (pe_own rfl fx.c_TooGreat rfl)) saS_nil))))) (by first | rfl | exact swaps_no rfl _ _ _))
 (ss_one (ss_ret (np := 1) (se_bin (se_name (i := 1) rfl (by first | exact .inl rfl | exact .inr (.inl rfl) | exact .inr (.inr rfl)) rfl rfl) (se_lst (saS_cons rfl (se_isX1 (.own _) fx.i_Refused rfl fx.f_isinstance rfl (by decide) rfl rfl (se_name (i := 0) rfl (by first | exact .inl rfl | exact .inr (.inl rfl) | exact .inr (.inr rfl)) rfl rfl) (pe_own rfl fx.c_Refused rfl)) (saS_cons rfl (se_isX1 (.own _) fx.i_NothingDone rfl fx.f_isinstance rfl (by decide) rfl rfl (se_name (i := 0) rfl (by first | exact .inl rfl | exact .inr (.inl rfl) | exact .inr (.inr rfl)) rfl rfl) (pe_own rfl fx.c_NothingDone rfl)) (saS_cons rfl (se_isX1 (.own _) fx.i_UnknownName rfl fx.f_isinstance rfl (by decide) rfl rfl (se_name (i := 0) rfl (by first | exact .inl rfl | exact .inr (.inl rfl) | exact .inr (.inr rfl)) rfl rfl) (pe_own rfl fx.c_UnknownName rfl)) saS_nil))))))))

def m__law_bases : M Flw :=
 (sSeq (sSet (gName 1) (eLst [(false, (eOp (g1 (gIsX ["BadText", "BadUse", "NotOfIt", "TooGreat", "Refused", "NothingDone", "UnknownName"] ["BadText", "BadUse", "NotOfIt", "TooGreat", "Refused", "NothingDone"])) [(eSlot 0)])), (false, (eOp (g1 (gIsX ["BadText", "BadUse", "NotOfIt", "TooGreat", "Refused", "NothingDone", "UnknownName"] ["BadText", "BadUse", "NotOfIt", "TooGreat", "Refused", "NothingDone"])) [(eSlot 0)])), (false, (eOp (g1 (gIsX ["BadText", "BadUse", "NotOfIt", "TooGreat", "Refused", "NothingDone", "UnknownName"] ["UnknownName"])) [(eSlot 0)]))]))
 (sSeq (sSet (gName 2) (eOp (g1 (gIsX ["BadText", "BadUse", "NotOfIt", "TooGreat", "Refused", "NothingDone", "UnknownName"] [])) [(eSlot 0)]))
 (sSeq (sSet (gName 2) (eOr (eSlot 2) (eOp (g1 (gIsX ["BadText", "BadUse", "NotOfIt", "TooGreat", "Refused", "NothingDone", "UnknownName"] [])) [(eSlot 0)])))
 (sRet 1 (eOp (g2 (gBin .Add)) [(eSlot 1), (eLst [(false, (eOp (g1 (gIsX ["BadText", "BadUse", "NotOfIt", "TooGreat", "Refused", "NothingDone", "UnknownName"] ["UnknownName"])) [(eSlot 0)])), (false, (eSlot 2))])])))))
def F__law_bases : FN := fnOf 1 2 [1, 2] m__law_bases
theorem sc__law_bases : FnScope ["e", "found", "is_odd"] ["e"] (defScope Hd.s__law_bases) := ⟨rfl, rfl, rfl, by decide +kernel, rfl, by decide +kernel, by decide +kernel⟩
theorem c__law_bases {P : Program} {w : World} {K : PySem.W.Frag} {mg : Str → Option Value} {base : Heap} {f : Addr} {fd : FuncData} (fx : Fx P K mg)  (Fd : FunD K "_law_bases" "_law_bases" (defArgs Hd.s__law_bases) (defBody Hd.s__law_bases) (defScope Hd.s__law_bases) [] [] f fd) (hmg : mg "_law_bases" = some (.ref f)) :
    CalF P w K mg base 1 "_law_bases" 1 F__law_bases := by
  have hN := sc__law_bases.nd
  refine cal_fn (N := ["e", "found", "is_odd"]) Fd sc__law_bases rfl rfl hmg (Fd.bindsN fun _ _ _ _ _ _ us hl => match us, hl with | [_], _ => rfl) fun cdv A outer s H E hG hr W tk => ?_
  have hu64 := hr.units
  have hu65 : (A.deeper (PyProof.Rows.envOfC "_law_bases" (defScope Hd.s__law_bases) s.heap.objs.size f cdv)).units + 65 < cLine := by have := hr.un; omega
  have hu66 : (A.deeper (PyProof.Rows.envOfC "_law_bases" (defScope Hd.s__law_bases) s.heap.objs.size f cdv)).units + 66 < cLine := by have := hr.un; omega
  exact (ss_cons (ss_set (i := 1) hN rfl (by first | exact .inl rfl | exact .inr rfl) (by first | exact .inl rfl | exact .inr rfl) (by decide) (se_lst (saS_cons rfl (se_isX1 (.own _) fx.i_AnswerError rfl fx.f_isinstance rfl (by decide) rfl rfl (se_name (i := 0) rfl (by first | exact .inl rfl | exact .inr (.inl rfl) | exact .inr (.inr rfl)) rfl rfl) (pe_own rfl fx.c_AnswerError rfl)) (saS_cons rfl (se_isX1 (.ty _) fx.i_ValueError rfl fx.f_isinstance rfl (by decide) rfl rfl (se_name (i := 0) rfl (by first | exact .inl rfl | exact .inr (.inl rfl) | exact .inr (.inr rfl)) rfl rfl) (pe_tyN rfl fx.f_ValueError rfl (by decide) rfl)) (saS_cons rfl (se_isX1 (.own _) fx.i_NameMissing rfl fx.f_isinstance rfl (by decide) rfl rfl (se_name (i := 0) rfl (by first | exact .inl rfl | exact .inr (.inl rfl) | exact .inr (.inr rfl)) rfl rfl) (pe_own rfl fx.c_NameMissing rfl)) saS_nil)))) (by first | rfl | exact swaps_no rfl _ _ _))
 (ss_cons (ss_set (i := 2) hN rfl (by first | exact .inl rfl | exact .inr rfl) (by first | exact .inl rfl | exact .inr rfl) (by decide) (se_isX3 (.ty _) (.ty _) (.ty _) fx.t_0 rfl fx.f_isinstance rfl (by decide) rfl rfl (se_name (i := 0) rfl (by first | exact .inl rfl | exact .inr (.inl rfl) | exact .inr (.inr rfl)) rfl rfl) (pa_cons (pe_tyN rfl fx.f_KeyError rfl (by decide) rfl) (pa_cons (pe_tyN rfl fx.f_IndexError rfl (by decide) rfl) (pa_cons (pe_tyN rfl fx.f_TypeError rfl (by decide) rfl) pa_nil)))) (by first | rfl | exact swaps_no rfl _ _ _))
 (ss_cons (ss_set (i := 2) hN rfl (by first | exact .inl rfl | exact .inr rfl) (by first | exact .inl rfl | exact .inr rfl) (by decide) (se_or (se_name (i := 2) rfl (by first | exact .inl rfl | exact .inr (.inl rfl) | exact .inr (.inr rfl)) rfl rfl) (se_one (se_isX3 (.ty _) (.ty _) (.ty _) fx.t_1 rfl fx.f_isinstance rfl (by decide) rfl rfl (se_name (i := 0) rfl (by first | exact .inl rfl | exact .inr (.inl rfl) | exact .inr (.inr rfl)) rfl rfl) (pa_cons (pe_tyN rfl fx.f_ArithmeticError rfl (by decide) rfl) (pa_cons (pe_tyN rfl fx.f_RuntimeError rfl (by decide) rfl) (pa_cons (pe_tyN rfl fx.f_AttributeError rfl (by decide) rfl) pa_nil)))))) (by first | rfl | exact swaps_no rfl _ _ _))
 (ss_one (ss_ret (np := 1) (se_bin (se_name (i := 1) rfl (by first | exact .inl rfl | exact .inr (.inl rfl) | exact .inr (.inr rfl)) rfl rfl) (se_lst (saS_cons rfl (se_isX1 (.ty _) fx.i_LookupError rfl fx.f_isinstance rfl (by decide) rfl rfl (se_name (i := 0) rfl (by first | exact .inl rfl | exact .inr (.inl rfl) | exact .inr (.inr rfl)) rfl rfl) (pe_tyN rfl fx.f_LookupError rfl (by decide) rfl)) (saS_cons rfl (se_name (i := 2) rfl (by first | exact .inl rfl | exact .inr (.inl rfl) | exact .inr (.inr rfl)) rfl rfl) saS_nil)))))))))

def m_law : M Flw :=
 (sSeq (sSet (gName 1) (eCall F__law_source (evs [(eSlot 0)])))
 (sSeq (sFor (itRng1 (eDat (.int 2))) (gName 2)
 (sSeq (sPar [3, 4] [(eCall F__law_pick (evs [(eSlot 1), (eOp (g2 (gBin .Pow)) [(eDat (.int 10)), (eDat (.int 6))])])), (eCall F__law_pick (evs [(eSlot 1), (eDat (.int 400))]))])
 (sSeq (sSet (gName 5) (eCall F__law_of (evs [(eSlot 1), (eLst [(false, (eDat (.str "place"))), (false, (eDat (.str "kind"))), (false, (eDat (.str "promise"))), (false, (eDat (.str "")))])])))
 (sSeq (sSet (gName 6) (eCall F__law_of (evs [(eSlot 1), (eLst [(false, (eDat (.str "a"))), (false, (eDat (.str ""))), (false, (eDat (.str "no name"))), (false, (eDat .none)), (false, (eLst [])), (false, (eTup [(false, (eDat (.str "a"))), (false, (eDat (.str "b")))])), (false, (eDict [((eDat (.str "a")), (eDat (.int 1)))])), (false, (eDat (.int 7))), (false, (eDat (.bool true)))])])))
 (sSeq (sSet (gName 7) (eCall F__law_every (evs [(eSlot 3), (eSlot 4), (eSlot 5), (eSlot 6)])))
 (sSeq (sFor (itRng1 (eOp (g1 gLen) [(eSlot 7)])) (gName 8)
 (sSeq (sSet (gName 9) (eOp (gB2 (gCmp .Eq)) [(eSlot 8), (eOp (g2 (gBin .Sub)) [(eOp (g1 gLen) [(eSlot 7)]), (eDat (.int 1))])]))
 (sSeq (mIf (tOf (eOp (gB2 (gCmp .NotEq)) [(eCall F__law_kinds (evs [(eOp (g2 gIdx) [(eSlot 7), (eSlot 8)])])), (eComp (itRng1 (eOp (g1 gLen) [(eSlot 7)])) (gName 11) (ret true) (eOp (gB2 (gCmp .Eq)) [(eSlot 11), (eSlot 8)]) [11])]))
 (sRet 1 (eDat (.bool false)))
 (ret .nx))
 (mIf (tOf (eOp (gB2 (gCmp .NotEq)) [(eCall F__law_bases (evs [(eOp (g2 gIdx) [(eSlot 7), (eSlot 8)])])), (eLst [(false, (eNot (tOf (eSlot 9)))), (false, (eNot (tOf (eSlot 9)))), (false, (eSlot 9)), (false, (eSlot 9)), (false, (eDat (.bool false)))])]))
 (sRet 1 (eDat (.bool false)))
 (ret .nx)))))
 (sSeq (sSet (gName 10) (eLst [(false, (eOp (g1 (gFldX ["BadText", "BadUse", "NotOfIt", "TooGreat", "Refused", "NothingDone", "UnknownName"] "place")) [(eOp (g2 gIdx) [(eSlot 7), (eDat (.int 0))])])), (false, (eOp (g1 (gFldX ["BadText", "BadUse", "NotOfIt", "TooGreat", "Refused", "NothingDone", "UnknownName"] "place")) [(eOp (g2 gIdx) [(eSlot 7), (eDat (.int 1))])])), (false, (eOp (g1 (gFldX ["BadText", "BadUse", "NotOfIt", "TooGreat", "Refused", "NothingDone", "UnknownName"] "row")) [(eOp (g2 gIdx) [(eSlot 7), (eDat (.int 3))])])), (false, (eOp (g1 (gFldX ["BadText", "BadUse", "NotOfIt", "TooGreat", "Refused", "NothingDone", "UnknownName"] "word")) [(eOp (g2 gIdx) [(eSlot 7), (eDat (.int 4))])])), (false, (eOp (g1 (gFldX ["BadText", "BadUse", "NotOfIt", "TooGreat", "Refused", "NothingDone", "UnknownName"] "name")) [(eOp (g2 gIdx) [(eSlot 7), (eDat (.int 6))])]))]))
 (mIf (tOf (eOp (gB2 (gCmp .NotEq)) [(eOp (g1 gReprX) [(eSlot 10)]), (eOp (g1 gReprX) [(eLst [(false, (eSlot 3)), (false, (eOp (g2 (gBin .Add)) [(eSlot 3), (eDat (.int 1))])), (false, (eSlot 4)), (false, (eSlot 5)), (false, (eSlot 6))])])]))
 (sRet 1 (eDat (.bool false)))
 (ret .nx)))))))))
 (sRet 1 (eDat (.bool true)))))
def F_law : FN := fnOf 1 11 [1, 2, 3, 4, 5, 6, 7, 8, 9, 10] m_law
theorem sc_law : FnScope ["script", "source", "lap", "place", "row", "word", "name", "every", "k", "is_name", "kept", "j"] ["script"] (defScope Hd.s_law) := ⟨rfl, rfl, rfl, by decide +kernel, rfl, by decide +kernel, by decide +kernel⟩
theorem fnG_law {P : Program} {w : World} {K : PySem.W.Frag} {mg : Str → Option Value} {base : Heap} {f : Addr} {fd : FuncData} (fx : Fx P K mg) (c__law_source : CalF P w K mg base 1 "_law_source" 1 F__law_source) (c__law_pick : CalF P w K mg base 1 "_law_pick" 2 F__law_pick) (c__law_of : CalF P w K mg base 2 "_law_of" 2 F__law_of) (c__law_every : CalF P w K mg base 1 "_law_every" 4 F__law_every) (c__law_kinds : CalF P w K mg base 1 "_law_kinds" 1 F__law_kinds) (c__law_bases : CalF P w K mg base 1 "_law_bases" 1 F__law_bases) (Fd : FunD K "law" "law" (defArgs Hd.s_law) (defBody Hd.s_law) (defScope Hd.s_law) [] [] f fd) (hmg : mg "law" = some (.ref f)) :
    FnG P w K mg base 3 f fd ["script"] (spF K 1 F_law) := by
  have hN := sc_law.nd
  refine fnG_fn (N := ["script", "source", "lap", "place", "row", "word", "name", "every", "k", "is_name", "kept", "j"]) Fd sc_law rfl rfl fun cdv A outer s H E hG hr W tk => ?_
  have hu64 := hr.units
  have hu65 : (A.deeper (PyProof.Rows.envOfC "law" (defScope Hd.s_law) s.heap.objs.size f cdv)).units + 65 < cLine := by have := hr.un; omega
  have hu66 : (A.deeper (PyProof.Rows.envOfC "law" (defScope Hd.s_law) s.heap.objs.size f cdv)).units + 66 < cLine := by have := hr.un; omega
  exact (ss_cons (ss_set (i := 1) hN rfl (by first | exact .inl rfl | exact .inr rfl) (by first | exact .inl rfl | exact .inr rfl) (by decide) (se_call c__law_source tk hG (hr.mono (by decide)) rfl (sa_cons rfl (se_name (i := 0) rfl (by first | exact .inl rfl | exact .inr (.inl rfl) | exact .inr (.inr rfl)) rfl rfl) sa_nil) rfl rfl rfl) (by first | rfl | exact swaps_no rfl _ _ _))
 (ss_cons (ss_for (by decide) (passes_of rfl) rfl (si_range1 rfl rfl rfl fx.f_range se_int) (sg_name (i := 2) hN rfl (by first | exact .inl rfl | exact .inr rfl) (by first | exact .inl rfl | exact .inr rfl))
 (ss_cons (by first | exact ss_par2 (i := 3) (j := 4) (by decide) rfl hN rfl rfl (by decide) rfl rfl (sa_cons rfl (se_call c__law_pick tk hG (hr.mono (by decide)) rfl (sa_cons rfl (se_name (i := 1) rfl (by first | exact .inl rfl | exact .inr (.inl rfl) | exact .inr (.inr rfl)) rfl rfl) (sa_cons rfl (se_bin se_int se_int) sa_nil)) rfl rfl rfl) (sa_cons rfl (se_call c__law_pick tk hG (hr.mono (by decide)) rfl (sa_cons rfl (se_name (i := 1) rfl (by first | exact .inl rfl | exact .inr (.inl rfl) | exact .inr (.inr rfl)) rfl rfl) (sa_cons rfl se_int sa_nil)) rfl rfl rfl) sa_nil)) rfl rfl | exact ss_parN (by decide) rfl rfl rfl (by rw [sizeLine_eq]; decide) (sa_cons rfl (se_call c__law_pick tk hG (hr.mono (by decide)) rfl (sa_cons rfl (se_name (i := 1) rfl (by first | exact .inl rfl | exact .inr (.inl rfl) | exact .inr (.inr rfl)) rfl rfl) (sa_cons rfl (se_bin se_int se_int) sa_nil)) rfl rfl rfl) (sa_cons rfl (se_call c__law_pick tk hG (hr.mono (by decide)) rfl (sa_cons rfl (se_name (i := 1) rfl (by first | exact .inl rfl | exact .inr (.inl rfl) | exact .inr (.inr rfl)) rfl rfl) (sa_cons rfl se_int sa_nil)) rfl rfl rfl) sa_nil)) (pgs_consN (i := 3) hN rfl (by first | exact .inl rfl | exact .inr rfl) (by first | exact .inl rfl | exact .inr rfl) (pgs_consN (i := 4) hN rfl (by first | exact .inl rfl | exact .inr rfl) (by first | exact .inl rfl | exact .inr rfl) (pgs_nilN (is := [])))) rfl rfl)
 (ss_cons (ss_set (i := 5) hN rfl (by first | exact .inl rfl | exact .inr rfl) (by first | exact .inl rfl | exact .inr rfl) (by decide) (se_call c__law_of tk hG (hr.mono (by decide)) rfl (sa_cons rfl (se_name (i := 1) rfl (by first | exact .inl rfl | exact .inr (.inl rfl) | exact .inr (.inr rfl)) rfl rfl) (sa_cons rfl (se_lst (saS_cons rfl se_str (saS_cons rfl se_str (saS_cons rfl se_str (saS_cons rfl se_str saS_nil))))) sa_nil)) rfl rfl rfl) (by first | rfl | exact swaps_no rfl _ _ _))
 (ss_cons (ss_set (i := 6) hN rfl (by first | exact .inl rfl | exact .inr rfl) (by first | exact .inl rfl | exact .inr rfl) (by decide) (se_call c__law_of tk hG (hr.mono (by decide)) rfl (sa_cons rfl (se_name (i := 1) rfl (by first | exact .inl rfl | exact .inr (.inl rfl) | exact .inr (.inr rfl)) rfl rfl) (sa_cons rfl (se_lst (saS_cons rfl se_str (saS_cons rfl se_str (saS_cons rfl se_str (saS_cons rfl se_none (saS_cons rfl (se_lst saS_nil) (saS_cons rfl (se_tup (saS_cons rfl se_str (saS_cons rfl se_str saS_nil))) (saS_cons rfl (se_dict (sps_cons se_str se_int sps_nil) rfl rfl (List.cons_ne_nil _ _) (by decide)) (saS_cons rfl se_int (saS_cons rfl se_bool saS_nil)))))))))) sa_nil)) rfl rfl rfl) (by first | rfl | exact swaps_no rfl _ _ _))
 (ss_cons (ss_set (i := 7) hN rfl (by first | exact .inl rfl | exact .inr rfl) (by first | exact .inl rfl | exact .inr rfl) (by decide) (se_call c__law_every tk hG (hr.mono (by decide)) rfl (sa_cons rfl (se_name (i := 3) rfl (by first | exact .inl rfl | exact .inr (.inl rfl) | exact .inr (.inr rfl)) rfl rfl) (sa_cons rfl (se_name (i := 4) rfl (by first | exact .inl rfl | exact .inr (.inl rfl) | exact .inr (.inr rfl)) rfl rfl) (sa_cons rfl (se_name (i := 5) rfl (by first | exact .inl rfl | exact .inr (.inl rfl) | exact .inr (.inr rfl)) rfl rfl) (sa_cons rfl (se_name (i := 6) rfl (by first | exact .inl rfl | exact .inr (.inl rfl) | exact .inr (.inr rfl)) rfl rfl) sa_nil)))) rfl rfl rfl) (by first | rfl | exact swaps_no rfl _ _ _))
 (ss_cons (ss_for (by decide) (passes_of rfl) rfl (si_range1 rfl rfl rfl fx.f_range (se_callB br_len rfl fx.f_len rfl rfl (sa_cons rfl (se_name (i := 7) rfl (by first | exact .inl rfl | exact .inr (.inl rfl) | exact .inr (.inr rfl)) rfl rfl) sa_nil) (by decide) rfl rfl)) (sg_name (i := 8) hN rfl (by first | exact .inl rfl | exact .inr rfl) (by first | exact .inl rfl | exact .inr rfl))
 (ss_cons (ss_set (i := 9) hN rfl (by first | exact .inl rfl | exact .inr rfl) (by first | exact .inl rfl | exact .inr rfl) (by decide) (se_cmp hu65 rfl (se_name (i := 8) rfl (by first | exact .inl rfl | exact .inr (.inl rfl) | exact .inr (.inr rfl)) rfl rfl) (se_bin (se_callB br_len rfl fx.f_len rfl rfl (sa_cons rfl (se_name (i := 7) rfl (by first | exact .inl rfl | exact .inr (.inl rfl) | exact .inr (.inr rfl)) rfl rfl) sa_nil) (by decide) rfl rfl) se_int)) (by first | rfl | exact swaps_no rfl _ _ _))
 (ss_cons (ss_if (st_cmp hu65 rfl (se_call c__law_kinds tk hG (hr.mono (by decide)) rfl (sa_cons rfl (se_idx rfl (se_name (i := 7) rfl (by first | exact .inl rfl | exact .inr (.inl rfl) | exact .inr (.inr rfl)) rfl rfl) (se_name (i := 8) rfl (by first | exact .inl rfl | exact .inr (.inl rfl) | exact .inr (.inr rfl)) rfl rfl)) sa_nil) rfl rfl rfl) (se_comp (own := [("j", 11)]) rfl hN (by decide) (by decide) (blkOk_by (by rfl)) (si_range1 rfl rfl rfl fx.f_range (se_callB br_len rfl fx.f_len rfl rfl (sa_cons rfl (se_name (i := 7) rfl (by first | exact .inl rfl | exact .inr (.inl rfl) | exact .inr (.inr rfl)) rfl rfl) sa_nil) (by decide) rfl rfl)) (fun _ _ _ _ _ => (sg_name (i := 11) hN rfl (by first | exact .inl rfl | exact .inr rfl) (by first | exact .inl rfl | exact .inr rfl))) (fun _ _ _ _ _ => sts_nil) (fun _ _ _ _ _ => (se_cmp hu65 rfl (se_name (i := 11) rfl (by first | exact .inl rfl | exact .inr (.inl rfl) | exact .inr (.inr rfl)) rfl rfl) (se_name (i := 8) rfl (by first | exact .inl rfl | exact .inr (.inl rfl) | exact .inr (.inr rfl)) rfl rfl))) (fun _ => rfl)))
 (ss_one (ss_ret (np := 1) se_bool))
 ss_nil)
 (ss_one (ss_if (st_cmp hu65 rfl (se_call c__law_bases tk hG (hr.mono (by decide)) rfl (sa_cons rfl (se_idx rfl (se_name (i := 7) rfl (by first | exact .inl rfl | exact .inr (.inl rfl) | exact .inr (.inr rfl)) rfl rfl) (se_name (i := 8) rfl (by first | exact .inl rfl | exact .inr (.inl rfl) | exact .inr (.inr rfl)) rfl rfl)) sa_nil) rfl rfl rfl) (se_lst (saS_cons rfl (se_not (se_name (i := 9) rfl (by first | exact .inl rfl | exact .inr (.inl rfl) | exact .inr (.inr rfl)) rfl rfl)) (saS_cons rfl (se_not (se_name (i := 9) rfl (by first | exact .inl rfl | exact .inr (.inl rfl) | exact .inr (.inr rfl)) rfl rfl)) (saS_cons rfl (se_name (i := 9) rfl (by first | exact .inl rfl | exact .inr (.inl rfl) | exact .inr (.inr rfl)) rfl rfl) (saS_cons rfl (se_name (i := 9) rfl (by first | exact .inl rfl | exact .inr (.inl rfl) | exact .inr (.inr rfl)) rfl rfl) (saS_cons rfl se_bool saS_nil)))))))
 (ss_one (ss_ret (np := 1) se_bool))
 ss_nil)))) (fun _ => rfl))
 (ss_cons (ss_set (i := 10) hN rfl (by first | exact .inl rfl | exact .inr rfl) (by first | exact .inl rfl | exact .inr rfl) (by decide) (se_lst (saS_cons rfl (se_xfld fx.fld_place (se_idx rfl (se_name (i := 7) rfl (by first | exact .inl rfl | exact .inr (.inl rfl) | exact .inr (.inr rfl)) rfl rfl) se_int) rfl) (saS_cons rfl (se_xfld fx.fld_place (se_idx rfl (se_name (i := 7) rfl (by first | exact .inl rfl | exact .inr (.inl rfl) | exact .inr (.inr rfl)) rfl rfl) se_int) rfl) (saS_cons rfl (se_xfld fx.fld_row (se_idx rfl (se_name (i := 7) rfl (by first | exact .inl rfl | exact .inr (.inl rfl) | exact .inr (.inr rfl)) rfl rfl) se_int) rfl) (saS_cons rfl (se_xfld fx.fld_word (se_idx rfl (se_name (i := 7) rfl (by first | exact .inl rfl | exact .inr (.inl rfl) | exact .inr (.inr rfl)) rfl rfl) se_int) rfl) (saS_cons rfl (se_xfld fx.fld_name (se_idx rfl (se_name (i := 7) rfl (by first | exact .inl rfl | exact .inr (.inl rfl) | exact .inr (.inr rfl)) rfl rfl) se_int) rfl) saS_nil)))))) (by first | rfl | exact swaps_no rfl _ _ _))
 (ss_one (ss_if (st_cmp hu65 rfl (se_callB (br_reprX hG hu66 fx.sys) rfl fx.f_repr rfl rfl (sa_cons rfl (se_name (i := 10) rfl (by first | exact .inl rfl | exact .inr (.inl rfl) | exact .inr (.inr rfl)) rfl rfl) sa_nil) (by decide) rfl rfl) (se_callB (br_reprX hG hu66 fx.sys) rfl fx.f_repr rfl rfl (sa_cons rfl (se_lst (saS_cons rfl (se_name (i := 3) rfl (by first | exact .inl rfl | exact .inr (.inl rfl) | exact .inr (.inr rfl)) rfl rfl) (saS_cons rfl (se_bin (se_name (i := 3) rfl (by first | exact .inl rfl | exact .inr (.inl rfl) | exact .inr (.inr rfl)) rfl rfl) se_int) (saS_cons rfl (se_name (i := 4) rfl (by first | exact .inl rfl | exact .inr (.inl rfl) | exact .inr (.inr rfl)) rfl rfl) (saS_cons rfl (se_name (i := 5) rfl (by first | exact .inl rfl | exact .inr (.inl rfl) | exact .inr (.inr rfl)) rfl rfl) (saS_cons rfl (se_name (i := 6) rfl (by first | exact .inl rfl | exact .inr (.inl rfl) | exact .inr (.inr rfl)) rfl rfl) saS_nil)))))) sa_nil) (by decide) rfl rfl))
 (ss_one (ss_ret (np := 1) se_bool))
 ss_nil)))))))) (fun _ => rfl))
 (ss_one (ss_ret (np := 1) se_bool))))

end
end Lw

namespace Lw
noncomputable section
open PySem L2 Ev

def set1 : M Flw := (sSet (gName 1) (eCall F__law_source (evs [(eSlot 0)])))
def last1 : M Flw := (sRet 1 (eDat (.bool true)))
def q1 : M Flw := (sPar [3, 4] [(eCall F__law_pick (evs [(eSlot 1), (eOp (g2 (gBin .Pow)) [(eDat (.int 10)), (eDat (.int 6))])])), (eCall F__law_pick (evs [(eSlot 1), (eDat (.int 400))]))])
def q2 : M Flw := (sSet (gName 5) (eCall F__law_of (evs [(eSlot 1), (eLst [(false, (eDat (.str "place"))), (false, (eDat (.str "kind"))), (false, (eDat (.str "promise"))), (false, (eDat (.str "")))])])))
def q3 : M Flw := (sSet (gName 6) (eCall F__law_of (evs [(eSlot 1), (eLst [(false, (eDat (.str "a"))), (false, (eDat (.str ""))), (false, (eDat (.str "no name"))), (false, (eDat .none)), (false, (eLst [])), (false, (eTup [(false, (eDat (.str "a"))), (false, (eDat (.str "b")))])), (false, (eDict [((eDat (.str "a")), (eDat (.int 1)))])), (false, (eDat (.int 7))), (false, (eDat (.bool true)))])])))
def q4 : M Flw := (sSet (gName 7) (eCall F__law_every (evs [(eSlot 3), (eSlot 4), (eSlot 5), (eSlot 6)])))
def it5 : M (List PyData) := (itRng1 (eOp (g1 gLen) [(eSlot 7)]))
def b5_1 : M Flw := (sSet (gName 9) (eOp (gB2 (gCmp .Eq)) [(eSlot 8), (eOp (g2 (gBin .Sub)) [(eOp (g1 gLen) [(eSlot 7)]), (eDat (.int 1))])]))
def b5_2 : M Flw := (mIf (tOf (eOp (gB2 (gCmp .NotEq)) [(eCall F__law_kinds (evs [(eOp (g2 gIdx) [(eSlot 7), (eSlot 8)])])), (eComp (itRng1 (eOp (g1 gLen) [(eSlot 7)])) (gName 11) (Ev.ret true) (eOp (gB2 (gCmp .Eq)) [(eSlot 11), (eSlot 8)]) [11])]))
 (sRet 1 (eDat (.bool false)))
 (Ev.ret .nx))
def b5_3 : M Flw := (mIf (tOf (eOp (gB2 (gCmp .NotEq)) [(eCall F__law_bases (evs [(eOp (g2 gIdx) [(eSlot 7), (eSlot 8)])])), (eLst [(false, (eNot (tOf (eSlot 9)))), (false, (eNot (tOf (eSlot 9)))), (false, (eSlot 9)), (false, (eSlot 9)), (false, (eDat (.bool false)))])]))
 (sRet 1 (eDat (.bool false)))
 (Ev.ret .nx))
def b5 : M Flw := (sSeq b5_1 (sSeq b5_2 b5_3))
def q5 : M Flw := (sFor it5 (gName 8) b5)
def q6 : M Flw := (sSet (gName 10) (eLst [(false, (eOp (g1 (gFldX ["BadText", "BadUse", "NotOfIt", "TooGreat", "Refused", "NothingDone", "UnknownName"] "place")) [(eOp (g2 gIdx) [(eSlot 7), (eDat (.int 0))])])), (false, (eOp (g1 (gFldX ["BadText", "BadUse", "NotOfIt", "TooGreat", "Refused", "NothingDone", "UnknownName"] "place")) [(eOp (g2 gIdx) [(eSlot 7), (eDat (.int 1))])])), (false, (eOp (g1 (gFldX ["BadText", "BadUse", "NotOfIt", "TooGreat", "Refused", "NothingDone", "UnknownName"] "row")) [(eOp (g2 gIdx) [(eSlot 7), (eDat (.int 3))])])), (false, (eOp (g1 (gFldX ["BadText", "BadUse", "NotOfIt", "TooGreat", "Refused", "NothingDone", "UnknownName"] "word")) [(eOp (g2 gIdx) [(eSlot 7), (eDat (.int 4))])])), (false, (eOp (g1 (gFldX ["BadText", "BadUse", "NotOfIt", "TooGreat", "Refused", "NothingDone", "UnknownName"] "name")) [(eOp (g2 gIdx) [(eSlot 7), (eDat (.int 6))])]))]))
def q7 : M Flw := (mIf (tOf (eOp (gB2 (gCmp .NotEq)) [(eOp (g1 gReprX) [(eSlot 10)]), (eOp (g1 gReprX) [(eLst [(false, (eSlot 3)), (false, (eOp (g2 (gBin .Add)) [(eSlot 3), (eDat (.int 1))])), (false, (eSlot 4)), (false, (eSlot 5)), (false, (eSlot 6))])])]))
 (sRet 1 (eDat (.bool false)))
 (Ev.ret .nx))
def lap : M Flw := (sSeq q1 (sSeq q2 (sSeq q3 (sSeq q4 (sSeq q5 (sSeq q6 q7))))))
theorem law_is : F_law = fnOf 1 11 [1, 2, 3, 4, 5, 6, 7, 8, 9, 10] (sSeq set1 (sSeq (sFor (itRng1 (eDat (.int 2))) (gName 2) lap) last1)) := rfl
abbrev dd (d : PyData) : Option SV := some (.dat d)
end
end Lw

namespace Lw
noncomputable section
open PySem L2 Ev

def WS : List Str := ["place", "kind", "promise", ""]
def NS : List PyData := [.str "a", .str "", .str "no name", .none, .list [], .tuple [.str "a", .str "b"], .dict [(.str "a", .int 1)], .int 7, .bool true]
/-- the errors of a lap -/
def EV (p r : Int) (w : Str) (nm : PyData) : List PyData := [xD "BadText" [("place", .int p)], xD "BadUse" [("place", .int (p + 1))], xD "NotOfIt" [], xD "TooGreat" [("row", .int r)], xD "Refused" [("word", .str w)], xD "NothingDone" [], xD "UnknownName" [("name", nm)]]
theorem every_ok (p r : Int) (w : Str) (nm : PyData) : F__law_every [.dat (.int p), .dat (.int r), .dat (.str w), .dat nm] = .ret (.lst (EV p r w nm)) [.dat (.int p), .dat (.int r), .dat (.str w), .dat nm] := by kernel_rfl
def ZS (p r : Int) (w : Str) (nm : PyData) : List PyData := [.int p, .int (p + 1), .int r, .str w, nm]
structure OkD (d : PyData) : Prop where
  a : okIt d = true
  b : d.showable = true
  c : d.depth ≤ 3
  e : d.leavesShort 13 = true
  f : d.weight ≤ 50
def okD (d : PyData) : Bool := okIt d && (d.showable && (decide (d.depth ≤ 3) && (d.leavesShort 13 && decide (d.weight ≤ 50))))
theorem okD_ok {d : PyData} (h : okD d = true) : OkD d := by
  unfold okD at h
  simp only [Bool.and_eq_true, decide_eq_true_eq] at h
  exact ⟨h.1, h.2.1, h.2.2.1, h.2.2.2.1, h.2.2.2.2⟩
theorem ns_ok : ∀ d ∈ NS, OkD d := by
  have h : (NS.all okD) = true := by decide +kernel
  exact fun d hd => okD_ok (List.all_eq_true.mp h d hd)
theorem ws_ok : ∀ w ∈ WS, OkD (.str w) := by
  have h : (WS.all fun w => okD (.str w)) = true := by decide +kernel
  exact fun w hw => okD_ok (List.all_eq_true.mp h w hw)
theorem int_ok {i : Int} (h0 : 0 ≤ i) (h1 : i ≤ 1000000) : OkD (.int i) := by
  have hl : i.natAbs.log2 < 30 := by
    by_cases z : i.natAbs = 0
    · rw [z]; decide
    · exact (Nat.log2_lt z).mpr (by have : (2 : Nat) ^ 30 = 1073741824 := by decide
                                    omega)
  refine ⟨rfl, ?_, Nat.zero_le _, ?_, ?_⟩
  · simp only [PyData.showable, decide_eq_true_eq]; omega
  · simp only [PyData.leavesShort, decide_eq_true_eq]
    exact PyData.shown_int_le2 (by omega) (by omega)
  · simp only [PyData.weight]
    split <;> omega
theorem five_ok {a b c d e : PyData} (h1 : OkD a) (h2 : OkD b) (h3 : OkD c) (h4 : OkD d) (h5 : OkD e) : g1 gReprX [.list [a, b, c, d, e]] = some (.dat (.str (PyData.list [a, b, c, d, e]).shown)) := by
  have w1 := h1.f
  have w2 := h2.f
  have w3 := h3.f
  have w4 := h4.f
  have w5 := h5.f
  have d1 := h1.c
  have d2 := h2.c
  have d3 := h3.c
  have d4 := h4.c
  have d5 := h5.c
  have ls : (PyData.list [a, b, c, d, e]).leavesShort 13 = true := by
    simp only [PyData.leavesShort, PyData.leavesShortAll, h1.e, h2.e, h3.e, h4.e, h5.e, Bool.and_self]
  have sh := PyData.shown_le 13 (by decide) _ ls
  have wt : (PyData.list [a, b, c, d, e]).weight ≤ 300 := by
    simp only [PyData.weight, PyData.weightAll]; omega
  have sw : (PyData.list [a, b, c, d, e]).showable = true := by
    simp only [PyData.showable, PyData.showableAll, h1.b, h2.b, h3.b, h4.b, h5.b, Bool.and_self]
  have dp : (PyData.list [a, b, c, d, e]).depth ≤ 64 := by
    simp only [PyData.depth, PyData.depthAll]; omega
  refine if_pos (c := (([a, b, c, d, e].all okIt && (PyData.list [a, b, c, d, e]).showable && decide ((PyData.list [a, b, c, d, e]).depth ≤ 64) && decide ((PyData.list [a, b, c, d, e]).shown.length ≤ sizeLine)) = true)) ?_
  rw [sw, decide_eq_true dp, decide_eq_true (show (PyData.list [a, b, c, d, e]).shown.length ≤ sizeLine by rw [sizeLine_eq]; omega)]
  simp [h1.a, h2.a, h3.a, h4.a, h5.a]
end
end Lw

namespace Lw
noncomputable section
open PySem L2 Ev

theorem evs2 {δ δ1 δ' : DS} {m n : M Opd} {o o2 : Opd} (h : m δ = .ok o δ1) (h2 : n δ1 = .ok o2 δ') : evs [m, n] δ = .ok [o, o2] δ' := by simp [evs, bnd, h, h2, Ev.ret]
theorem sPar2 {δ δ1 δ' : DS} {i j : Nat} {m n : M Opd} {s1 s2 : SV} (h1 : m δ = .ok (.val s1) δ1) (h2 : n δ1 = .ok (.val s2) δ') (hi : i < δ'.length) (hj : j < δ'.length) : sPar [i, j] [m, n] δ = .ok .nx ((δ'.set i (some s1)).set j (some s2)) := by
  simp [sPar, evs, bnd, h1, h2, Ev.ret, takeV, take, hi, hj, setsN]
theorem tOf_ok {δ δ' : DS} {m : M Opd} {b : Bool} (h : m δ = .ok (.val (.dat (.bool b))) δ') : tOf m δ = .ok b δ' := by
  unfold tOf
  rw [bnd_ok h]
  cases b <;> rfl
section
variable {x0 : Option SV} {S : Src} {a2 a3 a4 a5 a6 a7 a8 a9 a10 a11 : Option SV}
def st (x0 : Option SV) (S : Src) (a2 a3 a4 a5 a6 a7 a8 a9 a10 a11 : Option SV) : DS := [x0, some (.src S), a2, a3, a4, a5, a6, a7, a8, a9, a10, a11]
theorem pick1 {e : M Opd} {k : Int} {rest : List (Option SV)} (he : e (x0 :: some (.src S) :: rest) = .ok (.val (.dat (.int k))) (x0 :: some (.src S) :: rest)) (h1 : 1 ≤ k) (h2 : k < 1073741824) : ∃ (S' : Src) (i : Int), eCall F__law_pick (evs [(eSlot 1), e]) (x0 :: some (.src S) :: rest) = .ok (.val (.dat (.int i))) (x0 :: some (.src S') :: rest) ∧ 0 ≤ i ∧ i < k := by
  obtain ⟨S', i, e', i0, i1⟩ := pick_ok S k h1 h2
  have e'' : F__law_pick [.src S, .dat (.int k)] = .ret (.dat (.int i)) [.src S', .dat (.int k)] := e'
  refine ⟨S', i, ?_, i0, i1⟩
  unfold eCall
  rw [bnd_ok (evs2 (show eSlot 1 (x0 :: some (.src S) :: rest) = .ok (.slot 1) (x0 :: some (.src S) :: rest) from rfl) he)]
  unfold mCall
  rw [bnd_ok (show lends [.slot 1, .val (.dat (.int k))] (x0 :: some (.src S) :: rest) = .ok [.src S, .dat (.int k)] (x0 :: none :: rest) from rfl), e'']
  rfl
theorem of1 {e : M Opd} {ds : List PyData} {rest : List (Option SV)} (he : e (x0 :: some (.src S) :: rest) = .ok (.val (.lst ds)) (x0 :: some (.src S) :: rest)) (h1 : 1 ≤ ds.length) (h2 : ds.length < 1000) : ∃ (S' : Src) (d : PyData), eCall F__law_of (evs [(eSlot 1), e]) (x0 :: some (.src S) :: rest) = .ok (.val (.dat d)) (x0 :: some (.src S') :: rest) ∧ d ∈ ds := by
  obtain ⟨S', d, e', hd⟩ := of_lst S ds h1 (by omega)
  have e'' : F__law_of [.src S, .lst ds] = .ret (.dat d) [.src S', .lst ds] := e'
  refine ⟨S', d, ?_, hd⟩
  unfold eCall
  rw [bnd_ok (evs2 (show eSlot 1 (x0 :: some (.src S) :: rest) = .ok (.slot 1) (x0 :: some (.src S) :: rest) from rfl) he)]
  unfold mCall
  rw [bnd_ok (show lends [.slot 1, .val (.lst ds)] (x0 :: some (.src S) :: rest) = .ok [.src S, .lst ds] (x0 :: none :: rest) from rfl), e'']
  rfl
theorem q1_ok : ∃ (S' : Src) (p r : Int), q1 (st x0 S a2 a3 a4 a5 a6 a7 a8 a9 a10 a11) = .ok .nx (st x0 S' a2 (dd (.int p)) (dd (.int r)) a5 a6 a7 a8 a9 a10 a11) ∧ 0 ≤ p ∧ p < 1000000 ∧ 0 ≤ r ∧ r < 400 := by
  have pw : eOp (g2 (gBin .Pow)) [(eDat (.int 10)), (eDat (.int 6))] (st x0 S a2 a3 a4 a5 a6 a7 a8 a9 a10 a11) = .ok (.val (.dat (.int 1000000))) (st x0 S a2 a3 a4 a5 a6 a7 a8 a9 a10 a11) := by kernel_rfl
  obtain ⟨S1, p, e1, p0, p1⟩ := pick1 (x0 := x0) (S := S) (rest := [a2, a3, a4, a5, a6, a7, a8, a9, a10, a11]) pw (by decide) (by decide)
  obtain ⟨S2, r, e2, r0, r1⟩ := pick1 (x0 := x0) (S := S1) (rest := [a2, a3, a4, a5, a6, a7, a8, a9, a10, a11]) (e := eDat (.int 400)) (k := 400) rfl (by decide) (by decide)
  exact ⟨S2, p, r, (sPar2 e1 e2 (by show 3 < 12; decide) (by show 4 < 12; decide)).trans rfl, p0, p1, r0, r1⟩
theorem q2_ok : ∃ (S' : Src) (w : Str), q2 (st x0 S a2 a3 a4 a5 a6 a7 a8 a9 a10 a11) = .ok .nx (st x0 S' a2 a3 a4 (dd (.str w)) a6 a7 a8 a9 a10 a11) ∧ w ∈ WS := by
  obtain ⟨S1, d, e1, hd⟩ := of1 (x0 := x0) (S := S) (rest := [a2, a3, a4, a5, a6, a7, a8, a9, a10, a11]) (ds := WS.map PyData.str) (e := (eLst [(false, (eDat (.str "place"))), (false, (eDat (.str "kind"))), (false, (eDat (.str "promise"))), (false, (eDat (.str "")))])) rfl (by decide) (by decide)
  obtain ⟨w, hw, rfl⟩ := List.mem_map.mp hd
  exact ⟨S1, w, sSet_ok e1 rfl, hw⟩
theorem q3_ok : ∃ (S' : Src) (d : PyData), q3 (st x0 S a2 a3 a4 a5 a6 a7 a8 a9 a10 a11) = .ok .nx (st x0 S' a2 a3 a4 a5 (dd d) a7 a8 a9 a10 a11) ∧ d ∈ NS := by
  obtain ⟨S1, d, e1, hd⟩ := of1 (x0 := x0) (S := S) (rest := [a2, a3, a4, a5, a6, a7, a8, a9, a10, a11]) (ds := NS) (e := (eLst [(false, (eDat (.str "a"))), (false, (eDat (.str ""))), (false, (eDat (.str "no name"))), (false, (eDat .none)), (false, (eLst [])), (false, (eTup [(false, (eDat (.str "a"))), (false, (eDat (.str "b")))])), (false, (eDict [((eDat (.str "a")), (eDat (.int 1)))])), (false, (eDat (.int 7))), (false, (eDat (.bool true)))])) (by kernel_rfl) (by decide) (by decide)
  exact ⟨S1, d, sSet_ok e1 rfl, hd⟩
section
variable {p r : Int} {w : Str} {nm : PyData}
theorem q4_ok : q4 (st x0 S a2 (dd (.int p)) (dd (.int r)) (dd (.str w)) (dd nm) a7 a8 a9 a10 a11) = .ok .nx (st x0 S a2 (dd (.int p)) (dd (.int r)) (dd (.str w)) (dd nm) (some (.lst (EV p r w nm))) a8 a9 a10 a11) := by
  refine sSet_ok (v := .lst (EV p r w nm)) (δ1 := st x0 S a2 (dd (.int p)) (dd (.int r)) (dd (.str w)) (dd nm) a7 a8 a9 a10 a11) ?_ rfl
  exact eCall_ok (ds := [.int p, .int r, .str w, nm]) (show evs _ _ = _ from rfl) (every_ok p r w nm)
theorem b5_ok (k : Nat) (hk : k < 7) {a3 a4 a5 a6 a9 : Option SV} : ∃ a9', b5 (st x0 S a2 a3 a4 a5 a6 (some (.lst (EV p r w nm))) (dd (.int k)) a9 a10 a11) = .ok .nx (st x0 S a2 a3 a4 a5 a6 (some (.lst (EV p r w nm))) (dd (.int k)) a9' a10 a11) := by
  have : k = 0 ∨ k = 1 ∨ k = 2 ∨ k = 3 ∨ k = 4 ∨ k = 5 ∨ k = 6 := by omega
  rcases this with rfl | rfl | rfl | rfl | rfl | rfl | rfl
  · exact ⟨dd (.bool false), by cases a11 <;> kernel_rfl⟩
  · exact ⟨dd (.bool false), by cases a11 <;> kernel_rfl⟩
  · exact ⟨dd (.bool false), by cases a11 <;> kernel_rfl⟩
  · exact ⟨dd (.bool false), by cases a11 <;> kernel_rfl⟩
  · exact ⟨dd (.bool false), by cases a11 <;> kernel_rfl⟩
  · exact ⟨dd (.bool false), by cases a11 <;> kernel_rfl⟩
  · exact ⟨dd (.bool true), by cases a11 <;> kernel_rfl⟩
theorem for_ex {α : Type} {b : M Flw} {i : Nat} (A : α → Option SV → DS) (hs : ∀ a o d, gName i (.dat d) (A a o) = some (A a (some (.dat d)))) : ∀ (ds : List PyData) (a : α) (o : Option SV), (∀ d ∈ ds, ∀ a, ∃ a', b (A a (some (.dat d))) = .ok .nx (A a' (some (.dat d)))) → ∃ a' o', Ev.forM (gName i) b ds (A a o) = .ok .nx (A a' o')
  | [], a, o, _ => ⟨a, o, rfl⟩
  | d :: ds, a, o, h => by
    obtain ⟨a1, e1⟩ := h d (by simp) a
    obtain ⟨a2, o2, e2⟩ := for_ex A hs ds a1 (some (.dat d)) fun x hx => h x (List.mem_cons_of_mem _ hx)
    refine ⟨a2, o2, ?_⟩
    show bnd (asg (gName i) (.dat d)) _ _ = _
    refine Eq.trans (bnd_ok (y := ()) (δ' := A a (some (.dat d))) (by unfold asg; rw [hs])) ?_
    rw [bnd_ok e1]
    exact e2
theorem q5_ok : ∃ a8' a9', q5 (st x0 S a2 a3 a4 a5 a6 (some (.lst (EV p r w nm))) a8 a9 a10 a11) = .ok .nx (st x0 S a2 a3 a4 a5 a6 (some (.lst (EV p r w nm))) a8' a9' a10 a11) := by
  have it : it5 (st x0 S a2 a3 a4 a5 a6 (some (.lst (EV p r w nm))) a8 a9 a10 a11) = .ok (rng 0 7) (st x0 S a2 a3 a4 a5 a6 (some (.lst (EV p r w nm))) a8 a9 a10 a11) := by kernel_rfl
  have hr : rng 0 7 = (List.range' 0 7).map fun k : Nat => PyData.int k := by kernel_rfl
  obtain ⟨a9', a8', e⟩ := for_ex (α := Option SV) (b := b5) (i := 8) (fun a o => st x0 S a2 a3 a4 a5 a6 (some (.lst (EV p r w nm))) o a a10 a11) (fun a o d => rfl) (rng 0 7) a9 a8 (fun d hd a => by
    rw [hr] at hd
    obtain ⟨k, hk, rfl⟩ := List.mem_map.mp hd
    rw [List.mem_range'_1] at hk
    exact b5_ok k (by omega))
  exact ⟨a8', a9', (sFor_ok it).trans e⟩
theorem q6_ok {a3 a4 a5 a6 : Option SV} : q6 (st x0 S a2 a3 a4 a5 a6 (some (.lst (EV p r w nm))) a8 a9 a10 a11) = .ok .nx (st x0 S a2 a3 a4 a5 a6 (some (.lst (EV p r w nm))) a8 a9 (some (.lst (ZS p r w nm))) a11) := by kernel_rfl
theorem q7_ok (p0 : 0 ≤ p) (p1 : p < 1000000) (r0 : 0 ≤ r) (r1 : r < 400) (hw : w ∈ WS) (hn : nm ∈ NS) : q7 (st x0 S a2 (dd (.int p)) (dd (.int r)) (dd (.str w)) (dd nm) a7 a8 a9 (some (.lst (ZS p r w nm))) a11) = .ok .nx (st x0 S a2 (dd (.int p)) (dd (.int r)) (dd (.str w)) (dd nm) a7 a8 a9 (some (.lst (ZS p r w nm))) a11) := by
  have z : g1 gReprX [.list (ZS p r w nm)] = some (.dat (.str (PyData.list (ZS p r w nm)).shown)) := five_ok (int_ok p0 (by omega)) (int_ok (i := p + 1) (by omega) (by omega)) (int_ok r0 (by omega)) (ws_ok w hw) (ns_ok nm hn)
  have e1 : eOp (g1 gReprX) [(eSlot 10)] (st x0 S a2 (dd (.int p)) (dd (.int r)) (dd (.str w)) (dd nm) a7 a8 a9 (some (.lst (ZS p r w nm))) a11) = .ok (.val (.dat (.str (PyData.list (ZS p r w nm)).shown))) _ := eOp1 (show eSlot 10 _ = .ok (.slot 10) _ from rfl) (show _ = some (.list (ZS p r w nm)) from rfl) z
  have l2 : (eLst [(false, (eSlot 3)), (false, (eOp (g2 (gBin .Add)) [(eSlot 3), (eDat (.int 1))])), (false, (eSlot 4)), (false, (eSlot 5)), (false, (eSlot 6))]) (st x0 S a2 (dd (.int p)) (dd (.int r)) (dd (.str w)) (dd nm) a7 a8 a9 (some (.lst (ZS p r w nm))) a11) = .ok (.val (.lst (ZS p r w nm))) (st x0 S a2 (dd (.int p)) (dd (.int r)) (dd (.str w)) (dd nm) a7 a8 a9 (some (.lst (ZS p r w nm))) a11) := by kernel_rfl
  have e2 := eOp1 (f := g1 gReprX) l2 (show _ = some (.list (ZS p r w nm)) from rfl) z
  have t : tOf (eOp (gB2 (gCmp .NotEq)) [(eOp (g1 gReprX) [(eSlot 10)]), (eOp (g1 gReprX) [(eLst [(false, (eSlot 3)), (false, (eOp (g2 (gBin .Add)) [(eSlot 3), (eDat (.int 1))])), (false, (eSlot 4)), (false, (eSlot 5)), (false, (eSlot 6))])])]) (st x0 S a2 (dd (.int p)) (dd (.int r)) (dd (.str w)) (dd nm) a7 a8 a9 (some (.lst (ZS p r w nm))) a11) = .ok false (st x0 S a2 (dd (.int p)) (dd (.int r)) (dd (.str w)) (dd nm) a7 a8 a9 (some (.lst (ZS p r w nm))) a11) := by
    refine tOf_ok (eOp2 e1 e2 rfl rfl ?_)
    have e : eq? (.str (PyData.list (ZS p r w nm)).shown) (.str (PyData.list (ZS p r w nm)).shown) = some true := by
      unfold eq?
      split
      · simp [PyData.eqv]
      · simp [strEq?]
    simp only [gB2, gCmp, e, Option.map_some]
    rfl
  show mIf _ _ _ _ = _
  unfold mIf
  rw [bnd_ok t]
  rfl
end
theorem lap_ok : ∃ (S' : Src) (b2 b3 b4 b5 b6 b7 b8 b9 b10 b11 : Option SV), lap (st x0 S a2 a3 a4 a5 a6 a7 a8 a9 a10 a11) = .ok .nx (st x0 S' b2 b3 b4 b5 b6 b7 b8 b9 b10 b11) := by
  obtain ⟨S1, p, r, e1, p0, p1, r0, r1⟩ := q1_ok (x0 := x0) (S := S) (a2 := a2) (a3 := a3) (a4 := a4) (a5 := a5) (a6 := a6) (a7 := a7) (a8 := a8) (a9 := a9) (a10 := a10) (a11 := a11)
  obtain ⟨S2, w, e2, hw⟩ := q2_ok (x0 := x0) (S := S1) (a2 := a2) (a3 := dd (.int p)) (a4 := dd (.int r)) (a5 := a5) (a6 := a6) (a7 := a7) (a8 := a8) (a9 := a9) (a10 := a10) (a11 := a11)
  obtain ⟨S3, nm, e3, hn⟩ := q3_ok (x0 := x0) (S := S2) (a2 := a2) (a3 := dd (.int p)) (a4 := dd (.int r)) (a5 := dd (.str w)) (a6 := a6) (a7 := a7) (a8 := a8) (a9 := a9) (a10 := a10) (a11 := a11)
  have e4 := q4_ok (x0 := x0) (S := S3) (a2 := a2) (p := p) (r := r) (w := w) (nm := nm) (a7 := a7) (a8 := a8) (a9 := a9) (a10 := a10) (a11 := a11)
  obtain ⟨c8, c9, e5⟩ := q5_ok (x0 := x0) (S := S3) (a2 := a2) (a3 := dd (.int p)) (a4 := dd (.int r)) (a5 := dd (.str w)) (a6 := dd nm) (p := p) (r := r) (w := w) (nm := nm) (a8 := a8) (a9 := a9) (a10 := a10) (a11 := a11)
  have e6 := q6_ok (x0 := x0) (S := S3) (a2 := a2) (a3 := dd (.int p)) (a4 := dd (.int r)) (a5 := dd (.str w)) (a6 := dd nm) (p := p) (r := r) (w := w) (nm := nm) (a8 := c8) (a9 := c9) (a10 := a10) (a11 := a11)
  have e7 := q7_ok (x0 := x0) (S := S3) (a2 := a2) (a7 := some (.lst (EV p r w nm))) (a8 := c8) (a9 := c9) (a11 := a11) p0 p1 r0 r1 hw hn
  exact ⟨S3, a2, dd (.int p), dd (.int r), dd (.str w), dd nm, some (.lst (EV p r w nm)), c8, c9, some (.lst (ZS p r w nm)), a11, (sSeq_nx e1).trans ((sSeq_nx e2).trans ((sSeq_nx e3).trans ((sSeq_nx e4).trans ((sSeq_nx e5).trans ((sSeq_nx e6).trans e7)))))⟩
end
theorem laps_ok {x0 : Option SV} : ∀ (ds : List PyData) (S : Src) (a2 a3 a4 a5 a6 a7 a8 a9 a10 a11 : Option SV), ∃ (S' : Src) (b2 b3 b4 b5 b6 b7 b8 b9 b10 b11 : Option SV), Ev.forM (gName 2) lap ds (st x0 S a2 a3 a4 a5 a6 a7 a8 a9 a10 a11) = .ok .nx (st x0 S' b2 b3 b4 b5 b6 b7 b8 b9 b10 b11)
  | [], S, a2, a3, a4, a5, a6, a7, a8, a9, a10, a11 => ⟨S, a2, a3, a4, a5, a6, a7, a8, a9, a10, a11, rfl⟩
  | d :: ds, S, a2, a3, a4, a5, a6, a7, a8, a9, a10, a11 => by
    obtain ⟨S1, b2, b3, b4, b5, b6, b7, b8, b9, b10, b11, e1⟩ := lap_ok (x0 := x0) (S := S) (a2 := dd d) (a3 := a3) (a4 := a4) (a5 := a5) (a6 := a6) (a7 := a7) (a8 := a8) (a9 := a9) (a10 := a10) (a11 := a11)
    obtain ⟨S2, c2, c3, c4, c5, c6, c7, c8, c9, c10, c11, e2⟩ := laps_ok (x0 := x0) ds S1 b2 b3 b4 b5 b6 b7 b8 b9 b10 b11
    refine ⟨S2, c2, c3, c4, c5, c6, c7, c8, c9, c10, c11, ?_⟩
    show bnd (asg (gName 2) (.dat d)) _ _ = _
    rw [bnd_ok (show asg (gName 2) (.dat d) (st x0 S a2 a3 a4 a5 a6 a7 a8 a9 a10 a11) = .ok () (st x0 S (dd d) a3 a4 a5 a6 a7 a8 a9 a10 a11) from rfl), bnd_ok e1]
    exact e2
theorem law_true (ns : List Int) (h : ns.length ≤ 63) : ∃ v, F_law [.scr ns] = .ret (.dat (.bool true)) [v] := by
  obtain ⟨S, eS⟩ := source_ok ns h
  have eS' : F__law_source [.scr ns] = .ret (.src S) [.scr ns] := eS
  have e1 : eCall F__law_source (evs [(eSlot 0)]) (some (.scr ns) :: List.replicate 11 none) = .ok (.val (.src S)) (some (.scr ns) :: List.replicate 11 none) := by
    unfold eCall
    rw [bnd_ok (show evs [(eSlot 0)] (some (.scr ns) :: List.replicate 11 none) = .ok [.slot 0] (some (.scr ns) :: List.replicate 11 none) from rfl)]
    unfold mCall
    rw [bnd_ok (show lends [.slot 0] (some (.scr ns) :: List.replicate 11 none) = .ok [.scr ns] (none :: List.replicate 11 none) from rfl), eS']
    rfl
  have a1 : set1 (some (.scr ns) :: List.replicate 11 none) = .ok .nx (st (some (.scr ns)) S none none none none none none none none none none) := sSet_ok e1 rfl
  obtain ⟨S2, c2, c3, c4, c5, c6, c7, c8, c9, c10, c11, e2⟩ := laps_ok (x0 := some (.scr ns)) (rng 0 2) S none none none none none none none none none none
  have it : itRng1 (eDat (.int 2)) (st (some (.scr ns)) S none none none none none none none none none none) = .ok (rng 0 2) (st (some (.scr ns)) S none none none none none none none none none none) := by kernel_rfl
  rw [law_is]
  have hh : (sSeq set1 (sSeq (sFor (itRng1 (eDat (.int 2))) (gName 2) lap) last1)) ([SV.scr ns].map some ++ List.replicate 11 none) = .ok (.rt (.dat (.bool true))) (st (some (.scr ns)) S2 c2 c3 c4 c5 c6 c7 c8 c9 c10 c11) :=
    (sSeq_nx a1).trans ((sSeq_nx ((sFor_ok it).trans e2)).trans (sRet_ok (show eDat (.bool true) _ = _ from rfl)))
  exact ⟨.scr ns, fnOf_rt (np := 1) (nl := 11) (ss := [SV.scr ns]) rfl rfl hh rfl⟩
end
end Lw

namespace Lw
open PySem PySem.Spec L2 Ev
open PyProof.Rows hiding St
theorem fx_of {K : PySem.W.Frag} {h : Heap} {mg : Str → Option Value} (KX : K.In h) (G : h.Ns mainGlobals mg) (c : Hz.SaysZ Hd.fa Hd.fn Hd.ex Hd.xs K) : Fx PySem.Challenge.pw_answerrows_k00_errors K mg := by
  have hex : Hd.ex K = true := c.more
  exact {
    f_ArithmeticError := He.free_ok KX G (c.d.fact 16 rfl),
    f_AttributeError := He.free_ok KX G (c.d.fact 17 rfl),
    f_IndexError := He.free_ok KX G (c.d.fact 18 rfl),
    f_KeyError := He.free_ok KX G (c.d.fact 19 rfl),
    f_LookupError := He.free_ok KX G (c.d.fact 20 rfl),
    f_RuntimeError := He.free_ok KX G (c.d.fact 21 rfl),
    f_TypeError := He.free_ok KX G (c.d.fact 22 rfl),
    f_ValueError := He.free_ok KX G (c.d.fact 23 rfl),
    f_abs := He.free_ok KX G (c.d.fact 24 rfl),
    f_int := He.free_ok KX G (c.d.fact 25 rfl),
    f_isinstance := He.free_ok KX G (c.d.fact 26 rfl),
    f_len := He.free_ok KX G (c.d.fact 27 rfl),
    f_max := He.free_ok KX G (c.d.fact 28 rfl),
    f_range := He.free_ok KX G (c.d.fact 29 rfl),
    f_repr := He.free_ok KX G (c.d.fact 30 rfl),
    f_super := He.free_ok KX G (c.d.fact 31 rfl),
    v_BadText := (Hz.excB_ok (He.ba (He.ba (He.ba (He.ba (He.ba (He.ba (He.ba (He.ba (He.ba (He.ba (He.ba (He.ba (He.ba (He.ba (He.ba (He.ba (He.ba (He.ba (He.ba (He.ba (He.ba (He.ba (He.ba (He.ba hex).1).1).1).1).1).1).1).1).1).1).1).1).1).1).1).1).1).1).1).1).1).1).1).1).v (Hz.exI_of (c.at_ 0 rfl) (Hz.excB_ok (He.ba (He.ba (He.ba (He.ba (He.ba (He.ba (He.ba (He.ba (He.ba (He.ba (He.ba (He.ba (He.ba (He.ba (He.ba (He.ba (He.ba (He.ba (He.ba (He.ba (He.ba (He.ba (He.ba (He.ba hex).1).1).1).1).1).1).1).1).1).1).1).1).1).1).1).1).1).1).1).1).1).1).1).1).a0 ⟨_, _, _, _, _, _, _, _, _, _, rfl, rfl⟩ ⟨_, rfl, rfl⟩ (fun _ _ _ _ _ _ _ _ _ => rfl) rfl rfl rfl (by decide +kernel) rfl rfl rfl rfl) (He.glo_ok KX G (c.d.fact 1 rfl)) (He.eqO_ok (c.d.fact 1 rfl)),
    v_BadUse := (Hz.excB_ok (He.ba (He.ba (He.ba (He.ba (He.ba (He.ba (He.ba (He.ba (He.ba (He.ba (He.ba (He.ba (He.ba (He.ba (He.ba (He.ba (He.ba (He.ba (He.ba (He.ba (He.ba (He.ba (He.ba (He.ba hex).1).1).1).1).1).1).1).1).1).1).1).1).1).1).1).1).1).1).1).1).1).1).1).2).v (Hz.exI_of (c.at_ 1 rfl) (Hz.excB_ok (He.ba (He.ba (He.ba (He.ba (He.ba (He.ba (He.ba (He.ba (He.ba (He.ba (He.ba (He.ba (He.ba (He.ba (He.ba (He.ba (He.ba (He.ba (He.ba (He.ba (He.ba (He.ba (He.ba (He.ba hex).1).1).1).1).1).1).1).1).1).1).1).1).1).1).1).1).1).1).1).1).1).1).1).2).a0 ⟨_, _, _, _, _, _, _, _, _, _, rfl, rfl⟩ ⟨_, rfl, rfl⟩ (fun _ _ _ _ _ _ _ _ _ => rfl) rfl rfl rfl (by decide +kernel) rfl rfl rfl rfl) (He.glo_ok KX G (c.d.fact 2 rfl)) (He.eqO_ok (c.d.fact 2 rfl)),
    w_NotOfIt := Hz.exc0B_ok (He.ba (He.ba (He.ba (He.ba (He.ba (He.ba (He.ba (He.ba (He.ba (He.ba (He.ba (He.ba (He.ba (He.ba (He.ba (He.ba (He.ba (He.ba (He.ba (He.ba hex).1).1).1).1).1).1).1).1).1).1).1).1).1).1).1).1).1).1).1).2 (He.glo_ok KX G (c.d.fact 4 rfl)) (He.eqO_ok (c.d.fact 4 rfl)),
    v_TooGreat := (Hz.excB_ok (He.ba (He.ba (He.ba (He.ba (He.ba (He.ba (He.ba (He.ba (He.ba (He.ba (He.ba (He.ba (He.ba (He.ba (He.ba (He.ba (He.ba (He.ba (He.ba (He.ba (He.ba (He.ba (He.ba hex).1).1).1).1).1).1).1).1).1).1).1).1).1).1).1).1).1).1).1).1).1).1).2).v (Hz.exI_of (c.at_ 2 rfl) (Hz.excB_ok (He.ba (He.ba (He.ba (He.ba (He.ba (He.ba (He.ba (He.ba (He.ba (He.ba (He.ba (He.ba (He.ba (He.ba (He.ba (He.ba (He.ba (He.ba (He.ba (He.ba (He.ba (He.ba (He.ba hex).1).1).1).1).1).1).1).1).1).1).1).1).1).1).1).1).1).1).1).1).1).1).2).a0 ⟨_, _, _, _, _, _, _, _, _, _, rfl, rfl⟩ ⟨_, rfl, rfl⟩ (fun _ _ _ _ _ _ _ _ _ => rfl) rfl rfl rfl (by decide +kernel) rfl rfl rfl rfl) (He.glo_ok KX G (c.d.fact 7 rfl)) (He.eqO_ok (c.d.fact 7 rfl)),
    v_Refused := (Hz.excB_ok (He.ba (He.ba (He.ba (He.ba (He.ba (He.ba (He.ba (He.ba (He.ba (He.ba (He.ba (He.ba (He.ba (He.ba (He.ba (He.ba (He.ba (He.ba (He.ba (He.ba (He.ba (He.ba hex).1).1).1).1).1).1).1).1).1).1).1).1).1).1).1).1).1).1).1).1).1).2).v (Hz.exI_of (c.at_ 3 rfl) (Hz.excB_ok (He.ba (He.ba (He.ba (He.ba (He.ba (He.ba (He.ba (He.ba (He.ba (He.ba (He.ba (He.ba (He.ba (He.ba (He.ba (He.ba (He.ba (He.ba (He.ba (He.ba (He.ba (He.ba hex).1).1).1).1).1).1).1).1).1).1).1).1).1).1).1).1).1).1).1).1).1).2).a0 ⟨_, _, _, _, _, _, _, _, _, _, rfl, rfl⟩ ⟨_, rfl, rfl⟩ (fun _ _ _ _ _ _ _ _ _ => rfl) rfl rfl rfl (by decide +kernel) rfl rfl rfl rfl) (He.glo_ok KX G (c.d.fact 6 rfl)) (He.eqO_ok (c.d.fact 6 rfl)),
    w_NothingDone := Hz.exc0B_ok (He.ba (He.ba (He.ba (He.ba (He.ba (He.ba (He.ba (He.ba (He.ba (He.ba (He.ba (He.ba (He.ba (He.ba (He.ba (He.ba (He.ba (He.ba (He.ba hex).1).1).1).1).1).1).1).1).1).1).1).1).1).1).1).1).1).1).2 (He.glo_ok KX G (c.d.fact 5 rfl)) (He.eqO_ok (c.d.fact 5 rfl)),
    v_UnknownName := (Hz.excLB_ok (He.ba (He.ba (He.ba (He.ba (He.ba (He.ba (He.ba (He.ba (He.ba (He.ba (He.ba (He.ba (He.ba (He.ba (He.ba (He.ba (He.ba (He.ba (He.ba (He.ba (He.ba hex).1).1).1).1).1).1).1).1).1).1).1).1).1).1).1).1).1).1).1).1).2).v (Hz.exI_of (c.at_ 4 rfl) (Hz.excLB_ok (He.ba (He.ba (He.ba (He.ba (He.ba (He.ba (He.ba (He.ba (He.ba (He.ba (He.ba (He.ba (He.ba (He.ba (He.ba (He.ba (He.ba (He.ba (He.ba (He.ba (He.ba hex).1).1).1).1).1).1).1).1).1).1).1).1).1).1).1).1).1).1).1).1).2).a0 ⟨_, _, _, _, _, _, _, _, _, _, rfl, rfl⟩ ⟨_, rfl, rfl⟩ (fun _ _ _ _ _ _ _ _ _ => rfl) rfl rfl rfl (by decide +kernel) rfl rfl rfl rfl) (He.glo_ok KX G (c.d.fact 8 rfl)) (He.eqO_ok (c.d.fact 8 rfl)),
    c_BadText := He.glo_ok KX G (c.d.fact 1 rfl),
    i_BadText := Hz.isXB_ok (He.ba (He.ba (He.ba (He.ba (He.ba (He.ba (He.ba (He.ba (He.ba (He.ba (He.ba (He.ba (He.ba (He.ba (He.ba (He.ba (He.ba (He.ba hex).1).1).1).1).1).1).1).1).1).1).1).1).1).1).1).1).1).2,
    c_BadUse := He.glo_ok KX G (c.d.fact 2 rfl),
    i_BadUse := Hz.isXB_ok (He.ba (He.ba (He.ba (He.ba (He.ba (He.ba (He.ba (He.ba (He.ba (He.ba (He.ba (He.ba (He.ba (He.ba (He.ba (He.ba (He.ba hex).1).1).1).1).1).1).1).1).1).1).1).1).1).1).1).1).2,
    c_NotOfIt := He.glo_ok KX G (c.d.fact 4 rfl),
    i_NotOfIt := Hz.isXB_ok (He.ba (He.ba (He.ba (He.ba (He.ba (He.ba (He.ba (He.ba (He.ba (He.ba (He.ba (He.ba (He.ba (He.ba (He.ba (He.ba hex).1).1).1).1).1).1).1).1).1).1).1).1).1).1).1).2,
    c_TooGreat := He.glo_ok KX G (c.d.fact 7 rfl),
    i_TooGreat := Hz.isXB_ok (He.ba (He.ba (He.ba (He.ba (He.ba (He.ba (He.ba (He.ba (He.ba (He.ba (He.ba (He.ba (He.ba (He.ba (He.ba hex).1).1).1).1).1).1).1).1).1).1).1).1).1).1).2,
    c_AnswerError := He.glo_ok KX G (c.d.fact 0 rfl),
    i_AnswerError := Hz.isXB_ok (He.ba (He.ba (He.ba (He.ba (He.ba (He.ba (He.ba (He.ba (He.ba (He.ba (He.ba (He.ba (He.ba (He.ba hex).1).1).1).1).1).1).1).1).1).1).1).1).1).2,
    i_ValueError := Hz.isXB_ok (He.ba (He.ba (He.ba (He.ba (He.ba (He.ba (He.ba (He.ba (He.ba (He.ba (He.ba (He.ba (He.ba hex).1).1).1).1).1).1).1).1).1).1).1).1).2,
    c_NameMissing := He.glo_ok KX G (c.d.fact 3 rfl),
    i_NameMissing := Hz.isXB_ok (He.ba (He.ba (He.ba (He.ba (He.ba (He.ba (He.ba (He.ba (He.ba (He.ba (He.ba (He.ba hex).1).1).1).1).1).1).1).1).1).1).1).2,
    c_Refused := He.glo_ok KX G (c.d.fact 6 rfl),
    i_Refused := Hz.isXB_ok (He.ba (He.ba (He.ba (He.ba (He.ba (He.ba (He.ba (He.ba (He.ba (He.ba (He.ba hex).1).1).1).1).1).1).1).1).1).1).2,
    c_NothingDone := He.glo_ok KX G (c.d.fact 5 rfl),
    i_NothingDone := Hz.isXB_ok (He.ba (He.ba (He.ba (He.ba (He.ba (He.ba (He.ba (He.ba (He.ba (He.ba hex).1).1).1).1).1).1).1).1).1).2,
    c_UnknownName := He.glo_ok KX G (c.d.fact 8 rfl),
    i_UnknownName := Hz.isXB_ok (He.ba (He.ba (He.ba (He.ba (He.ba (He.ba (He.ba (He.ba (He.ba hex).1).1).1).1).1).1).1).1).2,
    i_LookupError := Hz.isXB_ok (He.ba (He.ba (He.ba (He.ba (He.ba (He.ba (He.ba (He.ba hex).1).1).1).1).1).1).1).2,
    t_0 := Hz.isXT_ok (He.ba (He.ba (He.ba (He.ba (He.ba (He.ba (He.ba hex).1).1).1).1).1).1).2,
    t_1 := Hz.isXT_ok (He.ba (He.ba (He.ba (He.ba (He.ba (He.ba hex).1).1).1).1).1).2,
    fld_place := Hz.fldB_ok (He.ba (He.ba (He.ba (He.ba (He.ba hex).1).1).1).1).2,
    fld_row := Hz.fldB_ok (He.ba (He.ba (He.ba (He.ba hex).1).1).1).2,
    fld_word := Hz.fldB_ok (He.ba (He.ba (He.ba hex).1).1).2,
    fld_name := Hz.fldB_ok (He.ba (He.ba hex).1).2,
    sys := Hz.sysB_ok (He.ba hex).2 }
theorem law_g {w : World} {K : PySem.W.Frag} {h : Heap} {mg : Str → Option Value} {fa : Addr} (KX : K.In h) (G : h.Ns mainGlobals mg) (c : Hz.SaysT Hd.fa Hd.fn Hd.ex Hd.xs Hd.mks K h) (hfa : mg ("law" : Str) = some (.ref fa)) :
    ∃ fd : FuncData, (∀ (s : Shared) (u : Value), BindsTo s fd ⟨[u], []⟩ [("script", u)]) ∧ ∀ base : Heap, K.In base → base.Ns mainGlobals mg → (∀ p ∈ Hz.csT K Hd.mks, LamX.TabB base mg p.1 p.2) → (letI : Tb := Hz.tbT K Hd.mks; FnG PySem.Challenge.pw_answerrows_k00_errors w K mg base 3 fa fd ["script"] (spF K 1 F_law)) := by
  letI : Tb := Hz.tbT K Hd.mks
  have fx := fx_of KX G c.z
  obtain ⟨fd__law_source, Fd__law_source⟩ := c.z.d.def_ 0 (d := Hd.d__law_source) rfl
  obtain ⟨fd__law_pick, Fd__law_pick⟩ := c.z.d.def_ 1 (d := Hd.d__law_pick) rfl
  obtain ⟨fd__law_of, Fd__law_of⟩ := c.z.d.def_ 2 (d := Hd.d__law_of) rfl
  obtain ⟨fd__law_every, Fd__law_every⟩ := c.z.d.def_ 3 (d := Hd.d__law_every) rfl
  obtain ⟨fd__law_kinds, Fd__law_kinds⟩ := c.z.d.def_ 4 (d := Hd.d__law_kinds) rfl
  obtain ⟨fd__law_bases, Fd__law_bases⟩ := c.z.d.def_ 5 (d := Hd.d__law_bases) rfl
  obtain ⟨fd_law, Fd_law⟩ := c.z.d.def_ 6 (d := Hd.d_law) rfl
  have g__law_source : mg "_law_source" = some (.ref (He.ga K "_law_source")) := He.glo_ok KX G (c.z.d.fact 14 rfl)
  have g__law_pick : mg "_law_pick" = some (.ref (He.ga K "_law_pick")) := He.glo_ok KX G (c.z.d.fact 13 rfl)
  have g__law_of : mg "_law_of" = some (.ref (He.ga K "_law_of")) := He.glo_ok KX G (c.z.d.fact 12 rfl)
  have g__law_every : mg "_law_every" = some (.ref (He.ga K "_law_every")) := He.glo_ok KX G (c.z.d.fact 10 rfl)
  have g__law_kinds : mg "_law_kinds" = some (.ref (He.ga K "_law_kinds")) := He.glo_ok KX G (c.z.d.fact 11 rfl)
  have g__law_bases : mg "_law_bases" = some (.ref (He.ga K "_law_bases")) := He.glo_ok KX G (c.z.d.fact 9 rfl)
  have g_law : mg "law" = some (.ref (He.ga K "law")) := He.glo_ok KX G (c.z.d.fact 15 rfl)
  have eq : fa = He.ga K "law" := by rw [g_law] at hfa; cases hfa; rfl
  subst eq
  refine ⟨fd_law, fun s u => FunD.bindsA (ps := ["script"]) Fd_law (fun _ _ _ _ _ _ us hl => match us, hl with | [_], _ => rfl) s [u] rfl, fun base B1 B2 hB => ?_⟩
  have c__law_source := fun base' : Heap => c__law_source (P := PySem.Challenge.pw_answerrows_k00_errors) (w := w) (base := base') fx  Fd__law_source g__law_source
  have c__law_pick := fun base' : Heap => c__law_pick (P := PySem.Challenge.pw_answerrows_k00_errors) (w := w) (base := base') fx  Fd__law_pick g__law_pick
  have c__law_of := fun base' : Heap => c__law_of (P := PySem.Challenge.pw_answerrows_k00_errors) (w := w) (base := base') fx (c__law_pick base') Fd__law_of g__law_of
  have c__law_every := fun base' : Heap => c__law_every (P := PySem.Challenge.pw_answerrows_k00_errors) (w := w) (base := base') fx  Fd__law_every g__law_every
  have c__law_kinds := fun base' : Heap => c__law_kinds (P := PySem.Challenge.pw_answerrows_k00_errors) (w := w) (base := base') fx  Fd__law_kinds g__law_kinds
  have c__law_bases := fun base' : Heap => c__law_bases (P := PySem.Challenge.pw_answerrows_k00_errors) (w := w) (base := base') fx  Fd__law_bases g__law_bases
  exact fnG_law (P := PySem.Challenge.pw_answerrows_k00_errors) (w := w) (base := base) fx (c__law_source base) (c__law_pick base) (c__law_of base) (c__law_every base) (c__law_kinds base) (c__law_bases base) Fd_law g_law
end Lw
open PySem PySem.W PySem.Calls PyProof.Rows
theorem PySem.Challenge.cw_answerrows_k00_errors_holds : PySem.Challenge.rw_answerrows_k00_errors.Holds := by
  w_on; o_law
  refine HandSHeadRun.head_any (r := OpenLaw.row PySem.Challenge.rw_answerrows_k00_errors) (q := view (OpenLaw.row PySem.Challenge.rw_answerrows_k00_errors).prog [17]) (H := Hd.hk) (ob := Hd.ob) (M := 4000) (loose := Hd.loose) (d := HandSHeadRun.topDef (OpenLaw.row PySem.Challenge.rw_answerrows_k00_errors).prog 17) (kwd := []) Hd.ob_eq
    (by kernel_rfl) (fun s => by kernel_rfl) Hd.run (by kernel_rfl) (by kernel_rfl) (by kernel_rfl) (by rfl) (by first | assumption | decide +kernel) (by decide +kernel) ⟨rfl, rfl, rfl, rfl, rfl, by decide +kernel⟩ ?hw ?hc
  case hw => w_witness2
  case hc =>
    refine Ev.walk_ev (l := PySem.Challenge.rw_answerrows_k00_errors) (n := 63) (k := 3) (x := "script") (F := Lw.F_law) rfl (by decide) (by kernel_rfl) ⟨rfl, by decide, by decide⟩ Lw.law_true ?_
    intro w mg fa h Y G hmg0
    obtain ⟨K, KX, c⟩ := Y
    have hmg : mg ("law" : PySem.Str) = some (.ref fa) := by
      have e : (HandSHeadRun.topDef (OpenLaw.row PySem.Challenge.rw_answerrows_k00_errors).prog 17).name = ("law" : PySem.Str) := by kernel_rfl
      rw [← e]
      exact hmg0
    obtain ⟨fd, hb, hF⟩ := Lw.law_g (w := w) KX G c hmg
    obtain ⟨t1, t2, t3, to⟩ := c.ok KX
    exact ⟨K, fd, Hz.csT K Hd.mks, Hz.tbT K Hd.mks, KX, t1, t2, t3, to, hb, hF⟩
