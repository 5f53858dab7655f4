import PyProof.Rows.All
import Wide.All
import OpenK.AllK
import Wide.FinOn
import HandS.ForMost
import HandS.Deep
import HandS.Flow
import HandS.Exc
import HandS.TryOnly
import HandS.TupAny
import HandS.TupLe
import HandS.Wide
import HandS.Star
import HandS.Walk
import HandS.Defaults
import HandS.CallSlots
import HandS.ExcOwn
import HandS.Text
import HandS.IsInst
import HandS.MapJoin
import PyProof.ReprRoads
import HandS.Ends
import HandS.HeadEnd
import HandS.Dict
import HandS.Style
import HandS.Iter
import HandS.Comp
import PyProof.Rows.TmSorted
import KE.KExcSuper
import HandS.ExcSuper
import HandS.HeadWalk
import HandS.ExcField
import HandS.HeadHook4
import HandS.Zip
import KE.GoesMore
import KE.GoesZip
import KE.GoesEnum
import PyProof.ListStr
import PyProof.SliceStr2
import KE.KStateDown
import Lean
import HandS.Base
import HandS.Call
import HandS.More
import HandS.Words
import HandS.WordsExc
import HandS.Head0
import HandS.Head1
import HandS.Head2
import HandS.HeadHook1
import HandS.HeadHook2
import HandS.HeadHook3
import PySem.Challenge.RW_answerrows_k01_lexemes_and_names
set_option Elab.async false
set_option linter.all false
set_option maxRecDepth 100000
set_option maxHeartbeats 0
/-! D1: data in the abstract heap; what a variable holds by value (own lists, own dicts); the relation and its one step. -/
namespace Ev
open PySem L2

/-- the state of the law's own drawing -/
structure Src where
  cells : List Int
  left : Int
  mixed : Int
  turn : Int

/-- what a name, or a value on the way, holds: data that nobody changes any more, or a thing that it alone holds -/
inductive SV where
  | dat (d : PyData)
  | lst (ds : List PyData)
  | dic (kvs : List (PyData × PyData))
  | src (S : Src)
  | obj (C : Str) (fs : List (Str × PyData))
  | scr (ns : List Int)

/-- a key of a dict as data -/
def kD : Key → PyData
  | .inl i => .int i
  | .inr x => .str x

/-- a list at a that is never written again -/
def SqF (K : PySem.W.Frag) (H : Hp) (a : Addr) (xs : List V) : Prop :=
  (∃ o, H a = some (.frz o (.lst xs))) ∨
    ∃ (o : Obj) (its : Array Value) (n : Nat), K.lookup a = some o ∧ o.cls = .type "list" ∧ o.dict = none ∧ o.data = .seq its n ∧ its.size ≤ sizeLine ∧ Vals xs its.toList
theorem SqF.sql {K : PySem.W.Frag} {H : Hp} {a : Addr} {xs : List V} (h : SqF K H a xs) : SqL K H a xs := by
  rcases h with ⟨o, h⟩ | h
  · exact .inl (.inr ⟨o, h⟩)
  · exact .inr h

/-- a list at a, made here, that is never written again -/
def FrL (H : Hp) (a : Addr) (xs : List V) : Prop := ∃ o, H a = some (.frz o (.lst xs))
mutual
inductive IsD (K : PySem.W.Frag) (H : Hp) : V → PyData → Prop
  | non : IsD K H .non .none
  | bl (b : Bool) : IsD K H (.bl b) (.bool b)
  | int (i : Int) : IsD K H (.int i) (.int i)
  | str (x : Str) : IsD K H (.str x) (.str x)
  | tup {a : Addr} {xs : List V} {ds : List PyData} : SqT K H a xs → IsAll K H xs ds → IsD K H (.ref a) (.tuple ds)
  | lst {a : Addr} {xs : List V} {ds : List PyData} : FrL H a xs → IsAll K H xs ds → IsD K H (.ref a) (.list ds)
  | dic {a : Addr} {o : Obj} {kvs : List (Key × V)} {ds : List PyData} : H a = some (.frz o (.dK kvs)) → IsAll K H (kvs.map (·.2)) ds →
      IsD K H (.ref a) (.dict ((kvs.map fun p => kD p.1).zip ds))
inductive IsAll (K : PySem.W.Frag) (H : Hp) : List V → List PyData → Prop
  | nil : IsAll K H [] []
  | cons {v : V} {vs : List V} {d : PyData} {ds : List PyData} : IsD K H v d → IsAll K H vs ds → IsAll K H (v :: vs) (d :: ds)
end

/-- what stands and may not change, stands -/
def Stays (H H' : Hp) : Prop := (∀ a xs, H a = some (.tup xs) → H' a = some (.tup xs)) ∧ ∀ a o u, H a = some (.frz o u) → H' a = some (.frz o u)
theorem Stays.refl (H : Hp) : Stays H H := ⟨fun _ _ h => h, fun _ _ _ h => h⟩
theorem Stays.trans {H H1 H2 : Hp} (a : Stays H H1) (b : Stays H1 H2) : Stays H H2 := ⟨fun _ _ h => b.1 _ _ (a.1 _ _ h), fun _ _ _ h => b.2 _ _ _ (a.2 _ _ _ h)⟩

section
variable {K : PySem.W.Frag} {H H' : Hp}
theorem SqT.stays (s : Stays H H') {a : Addr} {xs : List V} (h : SqT K H a xs) : SqT K H' a xs := by
  rcases h with (h | ⟨o, h⟩) | h
  · exact .inl (.inl (s.1 _ _ h))
  · exact .inl (.inr ⟨o, s.2 _ _ _ h⟩)
  · exact .inr h
theorem SqF.stays (s : Stays H H') {a : Addr} {xs : List V} (h : SqF K H a xs) : SqF K H' a xs := by
  rcases h with ⟨o, h⟩ | h
  · exact .inl ⟨o, s.2 _ _ _ h⟩
  · exact .inr h
theorem FrL.stays (s : Stays H H') {a : Addr} {xs : List V} (h : FrL H a xs) : FrL H' a xs := let ⟨o, h⟩ := h; ⟨o, s.2 _ _ _ h⟩
mutual
theorem IsD.stays (s : Stays H H') : ∀ {v : V} {d : PyData}, IsD K H v d → IsD K H' v d
  | _, _, .non => .non
  | _, _, .bl b => .bl b
  | _, _, .int i => .int i
  | _, _, .str x => .str x
  | _, _, .tup h a => .tup (SqT.stays s h) (IsAll.stays s a)
  | _, _, .lst h a => .lst (h.stays s) (IsAll.stays s a)
  | _, _, .dic h a => .dic (s.2 _ _ _ h) (IsAll.stays s a)
theorem IsAll.stays (s : Stays H H') : ∀ {vs : List V} {ds : List PyData}, IsAll K H vs ds → IsAll K H' vs ds
  | _, _, .nil => .nil
  | _, _, .cons h a => .cons (h.stays s) (IsAll.stays s a)
end
theorem IsAll.length {vs : List V} {ds : List PyData} (h : IsAll K H vs ds) : vs.length = ds.length := by
  induction ds generalizing vs with
  | nil => cases h; rfl
  | cons d ds ih => cases h with | cons _ t => simp [ih t]
theorem IsAll.append {vs ws : List V} {ds es : List PyData} (h : IsAll K H vs ds) (h' : IsAll K H ws es) : IsAll K H (vs ++ ws) (ds ++ es) := by
  induction ds generalizing vs with
  | nil => cases h; exact h'
  | cons d ds ih => cases h with | cons a t => exact .cons a (ih t)
theorem IsAll.get {vs : List V} {ds : List PyData} (h : IsAll K H vs ds) : ∀ {i : Nat} {d : PyData}, ds[i]? = some d → ∃ v, vs[i]? = some v ∧ IsD K H v d := by
  induction ds generalizing vs with
  | nil => intro i d e; simp at e
  | cons d ds ih =>
    cases h with
    | cons a t =>
      intro i d' e
      cases i with
      | zero => simp at e; subst e; exact ⟨_, rfl, a⟩
      | succ i => simpa using ih t (i := i) (d := d') (by simpa using e)
theorem IsAll.getV {vs : List V} {ds : List PyData} (h : IsAll K H vs ds) : ∀ {i : Nat} {v : V}, vs[i]? = some v → ∃ d, ds[i]? = some d ∧ IsD K H v d := by
  induction ds generalizing vs with
  | nil => cases h; intro i d e; simp at e
  | cons d ds ih =>
    cases h with
    | cons a t =>
      intro i v' e
      cases i with
      | zero => simp at e; subst e; exact ⟨_, rfl, a⟩
      | succ i => simpa using ih t (i := i) (v := v') (by simpa using e)
theorem IsAll.take {vs : List V} {ds : List PyData} (h : IsAll K H vs ds) (n : Nat) : IsAll K H (vs.take n) (ds.take n) := by
  induction ds generalizing vs n with
  | nil => cases h; simp; exact .nil
  | cons d ds ih =>
    cases h with
    | cons a t =>
      cases n with
      | zero => exact .nil
      | succ n => exact .cons a (ih t n)
theorem IsAll.drop {vs : List V} {ds : List PyData} (h : IsAll K H vs ds) (n : Nat) : IsAll K H (vs.drop n) (ds.drop n) := by
  induction ds generalizing vs n with
  | nil => cases h; simp; exact .nil
  | cons d ds ih =>
    cases h with
    | cons a t =>
      cases n with
      | zero => exact .cons a t
      | succ n => exact ih t n
theorem IsAll.reverse {vs : List V} {ds : List PyData} (h : IsAll K H vs ds) : IsAll K H vs.reverse ds.reverse := by
  induction ds generalizing vs with
  | nil => cases h; exact .nil
  | cons d ds ih => cases h with | cons a t => simp only [List.reverse_cons]; exact (ih t).append (.cons a .nil)
theorem IsAll.set {vs : List V} {ds : List PyData} (h : IsAll K H vs ds) {v : V} {d : PyData} (e : IsD K H v d) (n : Nat) : IsAll K H (vs.set n v) (ds.set n d) := by
  induction ds generalizing vs n with
  | nil => cases h; simp; exact .nil
  | cons d ds ih =>
    cases h with
    | cons a t =>
      cases n with
      | zero => exact .cons e t
      | succ n => exact .cons a (ih t n)
theorem IsAll.eraseIdx {vs : List V} {ds : List PyData} (h : IsAll K H vs ds) (n : Nat) : IsAll K H (vs.eraseIdx n) (ds.eraseIdx n) := by
  induction ds generalizing vs n with
  | nil => cases h; simp; exact .nil
  | cons d ds ih =>
    cases h with
    | cons a t =>
      cases n with
      | zero => exact t
      | succ n => exact .cons a (ih t n)

/-- a thing held alone, with the addresses that it holds -/
inductive Ent (K : PySem.W.Frag) (H : Hp) : V × SV → List Addr → Prop
  | dat {v : V} {d : PyData} : IsD K H v d → Ent K H (v, .dat d) []
  | lst {a : Addr} {vs : List V} {ds : List PyData} : H a = some (.lst vs) → IsAll K H vs ds → Ent K H (.ref a, .lst ds) [a]
  | dic {a : Addr} {kvs : List (Key × V)} {ds : List PyData} : H a = some (.dK kvs) → IsAll K H (kvs.map (·.2)) ds →
      Ent K H (.ref a, .dic ((kvs.map fun p => kD p.1).zip ds)) [a]
  | src {a c : Addr} {S : Src} : H a = some (.dK [(.inr "cells", .ref c), (.inr "left", .int S.left), (.inr "mixed", .int S.mixed), (.inr "turn", .int S.turn)]) →
      H c = some (.lst (S.cells.map V.int)) → Ent K H (.ref a, .src S) [a, c]
  | obj {a C dx : Addr} {x : Str} {fs : List (Str × V)} {ds : List PyData} : H a = some (.ins C dx fs) → H dx = some (.own a) → PySem.W.nsIn K mainGlobals x = some (some (.ref C)) → IsAll K H (fs.map (·.2)) ds →
      Ent K H (.ref a, .obj x ((fs.map (·.1)).zip ds)) [a]
  | scr {a : Addr} {ns : List Int} : SqF K H a (ns.map V.int) → Ent K H (.ref a, .scr ns) []
inductive Ents (K : PySem.W.Frag) (H : Hp) : List (V × SV) → List Addr → Prop
  | nil : Ents K H [] []
  | cons {e : V × SV} {L : List (V × SV)} {o os : List Addr} : Ent K H e o → Ents K H L os → Ents K H (e :: L) (o ++ os)

/-- all but what stands at the addresses O stands as it stood -/
def Kp (O : List Addr) (H H' : Hp) : Prop := ∀ a o, H a = some o → a ∉ O → H' a = some o
theorem Kp.refl (O : List Addr) (H : Hp) : Kp O H H := fun _ _ h _ => h
theorem Kp.trans {O : List Addr} {H H1 H2 : Hp} (a : Kp O H H1) (b : Kp O H1 H2) : Kp O H H2 := fun c o h n => b c o (a c o h n) n
theorem Kp.mono {O O' : List Addr} {H H' : Hp} (a : Kp O H H') (s : ∀ x ∈ O, x ∈ O') : Kp O' H H' := fun c o h n => a c o h fun z => n (s c z)
theorem Kp.new {O : List Addr} {p : Addr} {o : HO} (h : H p = none) : Kp O H (upd H p o) := fun a u e _ => by rw [upd_ne (ne_of_none e h)]; exact e
theorem Kp.at {O : List Addr} {p : Addr} {o : HO} (h : p ∈ O) : Kp O H (upd H p o) := fun a u e n => by
  have q : a ≠ p := fun z => by subst z; exact n h
  rw [upd_ne q]; exact e

/-- what stands at an address held alone may be written -/
def Own (H : Hp) (a : Addr) : Prop := ∃ o, H a = some o ∧ (∀ xs, o ≠ .tup xs) ∧ (∀ b u, o ≠ .frz b u) ∧ ∀ x, o ≠ .own x
theorem Ent.own {e : V × SV} {o : List Addr} (h : Ent K H e o) : ∀ a ∈ o, Own H a := by
  cases h with
  | dat _ => intro a ha; simp at ha
  | lst h _ => intro a ha; simp at ha; subst ha; exact ⟨_, h, by simp, by simp, by simp⟩
  | dic h _ => intro a ha; simp at ha; subst ha; exact ⟨_, h, by simp, by simp, by simp⟩
  | src h h' =>
    intro a ha
    simp at ha
    rcases ha with rfl | rfl
    · exact ⟨_, h, by simp, by simp, by simp⟩
    · exact ⟨_, h', by simp, by simp, by simp⟩
  | obj h _ _ _ => intro a ha; simp at ha; subst ha; exact ⟨_, h, by simp, by simp, by simp⟩
  | scr _ => intro a ha; simp at ha
theorem Ents.own {L : List (V × SV)} {os : List Addr} (h : Ents K H L os) : ∀ a ∈ os, Own H a := by
  induction h with
  | nil => intro a ha; simp at ha
  | cons e _ ih =>
    intro a ha
    rcases List.mem_append.mp ha with q | q
    · exact e.own a q
    · exact ih a q
theorem Kp.stays {O : List Addr} (k : Kp O H H') (ho : ∀ a ∈ O, Own H a) : Stays H H' :=
  ⟨fun a xs h => k a _ h fun z => by obtain ⟨o, e, n, _⟩ := ho a z; rw [h] at e; cases e; exact n _ rfl,
   fun a b u h => k a _ h fun z => by obtain ⟨o, e, _, n, _⟩ := ho a z; rw [h] at e; cases e; exact n _ _ rfl⟩
theorem Ent.keeps {O : List Addr} (k : Kp O H H') (ho : ∀ a ∈ O, Own H a) {e : V × SV} {o : List Addr} (h : Ent K H e o) (d : ∀ a ∈ o, a ∉ O) : Ent K H' e o := by
  have s := k.stays ho
  cases h with
  | dat h => exact .dat (h.stays s)
  | lst h t => exact .lst (k _ _ h (d _ (by simp))) (t.stays s)
  | dic h t => exact .dic (k _ _ h (d _ (by simp))) (t.stays s)
  | src h h' => exact .src (k _ _ h (d _ (by simp))) (k _ _ h' (d _ (by simp)))
  | obj h h' n t => exact .obj (k _ _ h (d _ (by simp))) (k _ _ h' fun z => by obtain ⟨o, e, _, _, q⟩ := ho _ z; rw [h'] at e; cases e; exact q _ rfl) n (t.stays s)
  | scr h => exact .scr (h.stays s)
theorem Ents.keeps {O : List Addr} (k : Kp O H H') (ho : ∀ a ∈ O, Own H a) {L : List (V × SV)} {os : List Addr} (h : Ents K H L os) (d : ∀ a ∈ os, a ∉ O) : Ents K H' L os := by
  induction h with
  | nil => exact .nil
  | cons e _ ih => exact .cons (e.keeps k ho fun a ha => d a (List.mem_append_left _ ha)) (ih fun a ha => d a (List.mem_append_right _ ha))
theorem Ents.append {L L' : List (V × SV)} {os os' : List Addr} (h : Ents K H L os) (h' : Ents K H L' os') : Ents K H (L ++ L') (os ++ os') := by
  induction h with
  | nil => exact h'
  | cons e _ ih => rw [List.cons_append, List.append_assoc]; exact .cons e ih
theorem Ents.split : ∀ {L L' : List (V × SV)} {os : List Addr}, Ents K H (L ++ L') os → ∃ o1 o2, os = o1 ++ o2 ∧ Ents K H L o1 ∧ Ents K H L' o2
  | [], _, os, h => ⟨[], os, rfl, .nil, h⟩
  | e :: L, L', _, .cons (o := o) he h => by
    obtain ⟨o1, o2, rfl, a, b⟩ := Ents.split h
    exact ⟨o ++ o1, o2, by rw [List.append_assoc], .cons he a, b⟩
theorem Ents.perm {L L' : List (V × SV)} (p : L.Perm L') : ∀ {os : List Addr}, Ents K H L os → ∃ os', os.Perm os' ∧ Ents K H L' os' := by
  induction p with
  | nil => intro os h; exact ⟨os, .refl _, h⟩
  | cons x _ ih =>
    intro os h
    cases h with
    | cons he h =>
      obtain ⟨os', p, h'⟩ := ih h
      exact ⟨_, p.append_left _, .cons he h'⟩
  | swap x y l =>
    intro os h
    cases h with
    | cons h1 h =>
      cases h with
      | cons h2 h =>
        rename_i o1 o2 os
        refine ⟨o2 ++ (o1 ++ os), ?_, .cons h2 (.cons h1 h)⟩
        rw [← List.append_assoc, ← List.append_assoc]
        exact List.Perm.append_right _ List.perm_append_comm
  | trans _ _ ih1 ih2 =>
    intro os h
    obtain ⟨o1, p1, h1⟩ := ih1 h
    obtain ⟨o2, p2, h2⟩ := ih2 h1
    exact ⟨o2, p1.trans p2, h2⟩

/-- the whole state: from the entry heap H0, where the things at O0 were handed over -/
structure Rel (K : PySem.W.Frag) (H0 : Hp) (O0 : List Addr) (H : Hp) (L : List (V × SV)) : Prop where
  ex : ∃ os, Ents K H L os ∧ os.Nodup ∧ ∀ a ∈ os, a ∈ O0 ∨ H0 a = none
  kp : Kp O0 H0 H
variable {H0 : Hp} {O0 : List Addr}
theorem Rel.perm {L L' : List (V × SV)} (R : Rel K H0 O0 H L) (p : L.Perm L') : Rel K H0 O0 H L' := by
  obtain ⟨os, h, n, f⟩ := R.ex
  obtain ⟨os', q, h'⟩ := h.perm p
  exact ⟨⟨os', h', q.nodup_iff.mp n, fun a ha => f a (q.mem_iff.mpr ha)⟩, R.kp⟩
theorem Rel.drop {L L' : List (V × SV)} (R : Rel K H0 O0 H (L ++ L')) : Rel K H0 O0 H L' := by
  obtain ⟨os, h, n, f⟩ := R.ex
  obtain ⟨o1, o2, rfl, _, h2⟩ := h.split
  exact ⟨⟨o2, h2, (List.nodup_append.mp n).2.1, fun a ha => f a (List.mem_append_right _ ha)⟩, R.kp⟩
/-- THE STEP: the things in front are exchanged -/
theorem Rel.step {Lc Lr Ln : List (V × SV)} (R : Rel K H0 O0 H (Lc ++ Lr))
    (h : ∀ oc, Ents K H Lc oc → oc.Nodup → ∃ on, Ents K H' Ln on ∧ on.Nodup ∧ (∀ a ∈ on, a ∈ oc ∨ H a = none) ∧ Kp oc H H') : Rel K H0 O0 H' (Ln ++ Lr) := by
  obtain ⟨os, he, n, f⟩ := R.ex
  obtain ⟨oc, orr, rfl, hc, hr⟩ := he.split
  obtain ⟨n1, n2, nd⟩ := List.nodup_append.mp n
  obtain ⟨on, hn, nn, hw, k⟩ := h oc hc n1
  have own : ∀ a ∈ oc, Own H a := hc.own
  refine ⟨⟨on ++ orr, hn.append (hr.keeps k own fun a ha z => nd a z a ha rfl), List.nodup_append.mpr ⟨nn, n2, fun a ha b hb e => ?_⟩, fun a ha => ?_⟩, fun a o e na => ?_⟩
  · subst e
    rcases hw a ha with z | z
    · exact nd a z a hb rfl
    · obtain ⟨o, q, _⟩ := hr.own a hb
      rw [z] at q; cases q
  · rcases List.mem_append.mp ha with q | q
    · rcases hw a q with z | z
      · exact f a (List.mem_append_left _ z)
      · by_cases hO : a ∈ O0
        · exact .inl hO
        · cases e : H0 a with
          | none => exact .inr rfl
          | some o => have q' := R.kp a o e hO; rw [z] at q'; cases q'
    · exact f a (List.mem_append_right _ q)
  · refine k a o (R.kp a o e na) fun z => ?_
    rcases f a (List.mem_append_left _ z) with q | q
    · exact na q
    · rw [q] at e; cases e
/-- something new, or nothing at all, was made; data v came out -/
theorem Rel.push {L : List (V × SV)} {v : V} {d : PyData} (R : Rel K H0 O0 H L) (k : ∀ O, Kp O H H') (i : IsD K H' v d) : Rel K H0 O0 H' ((v, .dat d) :: L) :=
  R.step (Lc := []) (Ln := [(v, .dat d)]) fun oc h n => by
    cases h
    exact ⟨[], .cons (.dat i) .nil, List.nodup_nil, fun a ha => by simp at ha, k _⟩
theorem Rel.ent {L : List (V × SV)} {e : V × SV} (R : Rel K H0 O0 H L) (h : e ∈ L) : ∃ o, Ent K H e o := by
  obtain ⟨os, he, n, f⟩ := R.ex
  clear n f R
  induction he with
  | nil => simp at h
  | cons a _ ih =>
    rcases List.mem_cons.mp h with rfl | h
    · exact ⟨_, a⟩
    · exact ih h
end
end Ev

/-! D2: the value semantics of the fragment, as functions on what the names hold. -/
namespace Ev
open PySem L2

abbrev DS := List (Option SV)
structure Exn where
  cls : Str
  fs : List (Str × PyData)
inductive R (α : Type) where
  | ok (a : α) (δ : DS)
  | exn (x : Exn) (δ : DS)
  | bad
abbrev M (α : Type) := DS → R α
def ret {α : Type} (a : α) : M α := fun δ => .ok a δ
def bnd {α β : Type} (m : M α) (f : α → M β) : M β := fun δ => match m δ with
  | .ok a δ' => f a δ'
  | .exn x δ' => .exn x δ'
  | .bad => .bad
def stuck {α : Type} : M α := fun _ => .bad
/-- an operand: a value, or what stands in a slot -/
inductive Opd where
  | val (s : SV)
  | slot (i : Nat)
inductive Flw where
  | nx | bk | ct
  | rt (v : SV)
def SV.data : SV → Option PyData
  | .dat d => some d
  | .lst ds => some (.list ds)
  | .dic kvs => some (.dict kvs)
  | _ => none
def at? (δ : DS) (i : Nat) : Option SV := (δ[i]?).join
def Opd.data (δ : DS) : Opd → Option PyData
  | .val s => s.data
  | .slot i => (at? δ i).bind SV.data
def datas (δ : DS) : List Opd → Option (List PyData)
  | [] => some []
  | o :: os => match o.data δ with
    | none => none
    | some d => match datas δ os with
      | none => none
      | some ds => some (d :: ds)
/-- the data of operands, then a value out of them -/
def opN (f : List PyData → Option SV) (os : List Opd) : M Opd := fun δ => match datas δ os with
  | none => .bad
  | some ds => match f ds with
    | none => .bad
    | some s => .ok (.val s) δ
def evs : List (M Opd) → M (List Opd)
  | [] => ret []
  | m :: ms => bnd m fun o => bnd (evs ms) fun os => ret (o :: os)
def eOp (f : List PyData → Option SV) (ms : List (M Opd)) : M Opd := bnd (evs ms) (opN f)
/-- what stands in a slot is taken out as data: held alone no more -/
def take : Opd → M SV
  | .val s => ret s
  | .slot i => fun δ => match (at? δ i).bind SV.data with
    | some d => .ok (.dat d) (δ.set i (some (.dat d)))
    | none => .bad
def takeD (o : Opd) : M PyData := bnd (take o) fun s => match s.data with
  | some d => ret d
  | none => stuck
def takes : List Opd → M (List PyData)
  | [] => ret []
  | o :: os => bnd (takeD o) fun d => bnd (takes os) fun ds => ret (d :: ds)
/-- what a star spreads -/
def spread (o : Opd) : M (List PyData) := fun δ => match o.data δ with
  | some (.list ds) => .ok ds δ
  | some (.tuple ds) => .ok ds δ
  | _ => .bad
/-- a row of arguments, some starred -/
def evS : List (Bool × M Opd) → M (List Opd)
  | [] => ret []
  | (false, m) :: r => bnd m fun o => bnd (evS r) fun os => ret (o :: os)
  | (true, m) :: r => bnd m fun o => bnd (spread o) fun ds => bnd (evS r) fun os => ret (ds.map (fun d => .val (.dat d)) ++ os)
def eTup (ms : List (Bool × M Opd)) : M Opd := bnd (evS ms) fun os => bnd (takes os) fun ds => if ds.length ≤ sizeLine then ret (.val (.dat (.tuple ds))) else stuck
def eLst (ms : List (Bool × M Opd)) : M Opd := bnd (evS ms) fun os => bnd (takes os) fun ds => if ds.length ≤ sizeLine then ret (.val (.lst ds)) else stuck
def eSlot (i : Nat) : M Opd := fun δ => match at? δ i with
  | some (.dat d) => .ok (.val (.dat d)) δ
  | some _ => .ok (.slot i) δ
  | none => .bad
def eDat (d : PyData) : M Opd := ret (.val (.dat d))

/-! ### truth, ifs -/
def truthy : PyData → Option Bool
  | .none => some false
  | .bool b => some b
  | .int i => some (i != 0)
  | .str s => if s.length ≤ sizeLine then some ((s.length : Int) != 0) else none
  | .list xs => some !xs.isEmpty
  | .tuple xs => some !xs.isEmpty
  | .dict _ => none
def truth (o : Opd) : M Bool := fun δ => match (o.data δ).bind truthy with
  | some b => .ok b δ
  | none => .bad
def tOf (m : M Opd) : M Bool := bnd m truth
def tAnd (a b : M Bool) : M Bool := bnd a fun c => if c then b else ret false
def tOr (a b : M Bool) : M Bool := bnd a fun c => if c then ret true else b
def tNot (a : M Bool) : M Bool := bnd a fun c => ret (!c)
def eAnd (a b : M Opd) : M Opd := bnd a fun o => bnd (truth o) fun c => if c then b else ret o
def eOr (a b : M Opd) : M Opd := bnd a fun o => bnd (truth o) fun c => if c then ret o else b
def eNot (a : M Bool) : M Opd := bnd a fun c => ret (.val (.dat (.bool (!c))))
def mIf {α : Type} (c : M Bool) (a b : M α) : M α := bnd c fun k => if k then a else b

/-! ### operators -/
def cat? (x y : Str) : Option SV := if x.length + y.length ≤ sizeLine then some (.dat (.str (x ++ y))) else none
def gAdd : PyData → PyData → Option SV
  | .int i, .int j => some (.dat (.int (i + j)))
  | .str x, .str y => cat? x y
  | .tuple x, .tuple y => if x.length + y.length ≤ sizeLine then some (.dat (.tuple (x ++ y))) else none
  | .list x, .list y => if x.length + y.length ≤ sizeLine then some (.lst (x ++ y)) else none
  | _, _ => none
def gSub : PyData → PyData → Option SV
  | .int i, .int j => some (.dat (.int (i - j)))
  | _, _ => none
def gMul : PyData → PyData → Option SV
  | .int i, .int j => if (-(2 ^ 64) < i ∧ i < 2 ^ 64) ∨ (-(2 ^ 64) < j ∧ j < 2 ^ 64) then some (.dat (.int (i * j))) else none
  | .str x, .int k => if 1 ≤ k ∧ k ≤ 1000 ∧ x.length ≤ 1000 then some (.dat (.str (Txt.mul x k))) else none
  | .list x, .int k => if -(2 ^ 63) ≤ k ∧ k < 2 ^ 63 ∧ x.length * k.toNat ≤ sizeLine then some (.lst (List.replicate k.toNat x).flatten) else none
  | _, _ => none
def gDiv : PyData → PyData → Option SV
  | .int i, .int j => if 0 < j ∧ j < 1073741824 then some (.dat (.int (i / j))) else none
  | _, _ => none
def gMod : PyData → PyData → Option SV
  | .int i, .int j => if 0 < j then some (.dat (.int (i % j))) else none
  | _, _ => none
def gShl : PyData → PyData → Option SV
  | .int i, .int j => if 0 ≤ j ∧ j ≤ 1000000 ∧ i.natAbs < 2 ^ 64 then some (.dat (.int (i * 2 ^ j.toNat))) else none
  | _, _ => none
def gShr : PyData → PyData → Option SV
  | .int i, .int j => if 0 ≤ j then some (.dat (.int (i / 2 ^ j.toNat))) else none
  | _, _ => none
def gPow : PyData → PyData → Option SV
  | .int i, .int j => if 0 ≤ j ∧ j ≤ 1000000 ∧ i.natAbs < 2 ^ 64 then some (.dat (.int (i ^ j.toNat))) else none
  | _, _ => none
def gBin : Operator → PyData → PyData → Option SV
  | .Add => gAdd
  | .Sub => gSub
  | .Mult => gMul
  | .FloorDiv => gDiv
  | .Mod => gMod
  | .LShift => gShl
  | .RShift => gShr
  | .Pow => gPow
  | _ => fun _ _ => none
def gUn : UnaryOp → PyData → Option SV
  | .USub, .int i => some (.dat (.int (-i)))
  | _, _ => none
def bool? (b : Bool) : Option SV := some (.dat (.bool b))
def strEq? : PyData → PyData → Option Bool
  | .str x, .str y => some (x.cps.toList == y.cps.toList)
  | _, _ => none
def eq? (d e : PyData) : Option Bool := if d.canLay0 && e.canLay0 && decide (min d.depth e.depth ≤ 64) then some (PyData.eqv d e) else strEq? d e
def inAll? (x : PyData) (ys : List PyData) : Option Bool := if x.canLay0 && PyData.canLayAll0 ys && decide (min (PyData.depthAll ys) x.depth ≤ 64) then some (ys.any fun z => PyData.eqv z x) else none
def in? (x : PyData) : PyData → Option Bool
  | .str y => match x with
    | .str z => some (!(Builtin.Str.occurrences y z 0 y.length 1).isEmpty)
    | _ => none
  | .list ys => inAll? x ys
  | .tuple ys => inAll? x ys
  | _ => none
def isNn : PyData → Bool
  | .none => true
  | _ => false
def is? : PyData → PyData → Option Bool
  | .bool a, .bool b => some (decide (a = b))
  | d, .none => some (isNn d)
  | _, _ => none
def gCmp : CmpOp → PyData → PyData → Option Bool
  | .Eq => eq?
  | .NotEq => fun d e => (eq? d e).map (!·)
  | .Lt => fun d e => match d, e with
    | .int i, .int j => some (decide (i < j))
    | .str x, .str y => some (decide (x.cps.toList < y.cps.toList))
    | _, _ => none
  | .LtE => fun d e => match d, e with
    | .int i, .int j => some (decide (i ≤ j))
    | .str x, .str y => some (!decide (y.cps.toList < x.cps.toList))
    | _, _ => none
  | .Gt => fun d e => match d, e with
    | .int i, .int j => some (decide (j < i))
    | .str x, .str y => some (decide (y.cps.toList < x.cps.toList))
    | _, _ => none
  | .GtE => fun d e => match d, e with
    | .int i, .int j => some (decide (j ≤ i))
    | .str x, .str y => some (!decide (x.cps.toList < y.cps.toList))
    | _, _ => none
  | .In => in?
  | .NotIn => fun d e => (in? d e).map (!·)
  | .Is => is?
  | .IsNot => fun d e => (is? d e).map (!·)
def g1 (f : PyData → Option SV) : List PyData → Option SV
  | [d] => f d
  | _ => none
def g2 (f : PyData → PyData → Option SV) : List PyData → Option SV
  | [d, e] => f d e
  | _ => none
def gB2 (f : PyData → PyData → Option Bool) : List PyData → Option SV
  | [d, e] => (f d e).map fun b => .dat (.bool b)
  | _ => none
def eChain (o1 o2 : CmpOp) (a b c : M Opd) : M Opd := bnd a fun x => bnd b fun y => bnd (opN (gB2 (gCmp o1)) [x, y]) fun z => bnd (truth z) fun k =>
  if k then bnd c fun w => opN (gB2 (gCmp o2)) [y, w] else ret z

/-! ### items, slices -/
def gIdx : PyData → PyData → Option SV
  | .list xs, .int i => (atI xs i).map .dat
  | .tuple xs, .int i => (atI xs i).map .dat
  | .str z, .int i => if z.length ≤ sizeLine then (atI z.cps.toList i).map fun c => .dat (.str ⟨#[c]⟩) else none
  | _, _ => none
def cutD {α : Type} (xs : List α) (lo hi : Option Int) : List α := (xs.drop (HT.sIx xs.length 0 lo)).take (HT.sIx xs.length xs.length hi - HT.sIx xs.length 0 lo)
/-- x[lo:hi] -/
def gCut (lo hi : Option Int) : PyData → Option SV
  | .list xs => some (.lst (cutD xs lo hi))
  | .tuple xs => some (.dat (.tuple (cutD xs lo hi)))
  | .str z => if z.length ≤ sizeLine then some (.dat (.str (cutS z lo hi))) else none
  | _ => none
def intO (m : M Opd) : M Int := bnd m fun o => fun δ => match o.data δ with
  | some (.int i) => .ok i δ
  | _ => .bad
def partM : Option (M Opd) → M (Option Int)
  | none => ret none
  | some m => bnd (intO m) fun i => ret (some i)
def eCut (a : M Opd) (lo hi : Option (M Opd)) : M Opd := bnd a fun x => bnd (partM lo) fun l => bnd (partM hi) fun h => opN (g1 (gCut l h)) [x]

/-! ### statements -/
def sSeq (a b : M Flw) : M Flw := bnd a fun f => match f with
  | .nx => b
  | f => ret f
def sDo (m : M Opd) : M Flw := bnd m fun _ => ret .nx
/-- a target -/
abbrev TgD := SV → DS → Option DS
def gName (i : Nat) : TgD := fun s δ => if i < δ.length then some (δ.set i (some s)) else none
def gTupL : List TgD → List PyData → DS → Option DS
  | [], [], δ => some δ
  | g :: gs, d :: ds, δ => (g (.dat d) δ).bind (gTupL gs ds)
  | _, _, _ => none
def tupOf : SV → Option (List PyData)
  | .dat (.tuple ds) => some ds
  | _ => none
def gTup (gs : List TgD) : TgD := fun s δ => (tupOf s).bind fun ds => gTupL gs ds δ
def asg (g : TgD) (s : SV) : M Unit := fun δ => match g s δ with
  | some δ' => .ok () δ'
  | none => .bad
def sSet (g : TgD) (m : M Opd) : M Flw := bnd m fun o => bnd (take o) fun s => bnd (asg g s) fun _ => ret .nx
/-- what a return hands out: a thing held by a local name leaves with it -/
def leave (np : Nat) : Opd → M SV
  | .val s => ret s
  | .slot i => if i < np then take (.slot i) else fun δ => match at? δ i with
    | some s => .ok s (δ.set i none)
    | none => .bad
def sRet (np : Nat) (m : M Opd) : M Flw := bnd m fun o => bnd (leave np o) fun s => ret (.rt s)
def sRetN : M Flw := ret (.rt (.dat .none))
def loopN (t : M Bool) (b : M Flw) : Nat → M Flw
  | 0 => stuck
  | n + 1 => bnd t fun c => if c then bnd b fun f => match f with
      | .nx => loopN t b n
      | .ct => loopN t b n
      | .bk => ret .nx
      | .rt s => ret (.rt s)
    else ret .nx
open Classical in
noncomputable def mWhile (t : M Bool) (b : M Flw) : M Flw := fun δ => if h : ∃ n, loopN t b n δ ≠ .bad then loopN t b (Classical.choose h) δ else .bad
theorem bnd_bad {α β : Type} {m : M α} {f g : α → M β} {δ : DS} (h : bnd m f δ ≠ .bad) (e : ∀ a δ', f a δ' ≠ .bad → g a δ' = f a δ') : bnd m g δ = bnd m f δ := by
  unfold bnd at h ⊢
  cases e1 : m δ with
  | bad => rfl
  | exn x δ1 => rfl
  | ok a δ1 => simp only [e1] at h ⊢; exact e a δ1 h
theorem loopN_succ {t : M Bool} {b : M Flw} : ∀ {n : Nat} {δ : DS}, loopN t b n δ ≠ .bad → loopN t b (n + 1) δ = loopN t b n δ
  | 0, δ, h => absurd rfl h
  | n + 1, δ, h => by
    refine bnd_bad h fun c δ1 h1 => ?_
    cases c with
    | false => rfl
    | true =>
      refine bnd_bad h1 fun f δ2 h2 => ?_
      cases f with
      | nx => exact loopN_succ h2
      | ct => exact loopN_succ h2
      | bk => rfl
      | rt s => rfl
theorem loopN_le {t : M Bool} {b : M Flw} {n m : Nat} {δ : DS} (h : loopN t b n δ ≠ .bad) (l : n ≤ m) : loopN t b m δ = loopN t b n δ := by
  induction m with
  | zero => cases Nat.le_zero.mp l; rfl
  | succ m ih =>
    by_cases e : n = m + 1
    · rw [e]
    · have q := ih (by omega)
      rw [← q]
      exact loopN_succ (by rw [q]; exact h)
theorem mWhile_of {t : M Bool} {b : M Flw} {n : Nat} {δ : DS} (h : loopN t b n δ ≠ .bad) : mWhile t b δ = loopN t b n δ := by
  have ex : ∃ n, loopN t b n δ ≠ .bad := ⟨n, h⟩
  unfold mWhile
  rw [dif_pos ex]
  have hc := Classical.choose_spec ex
  by_cases l : n ≤ Classical.choose ex
  · exact loopN_le h l
  · exact (loopN_le hc (by omega)).symm
theorem mWhile_ex {t : M Bool} {b : M Flw} {δ : DS} (h : mWhile t b δ ≠ .bad) : ∃ n, mWhile t b δ = loopN t b n δ := by
  by_cases ex : ∃ n, loopN t b n δ ≠ .bad
  · exact ⟨Classical.choose ex, by unfold mWhile; rw [dif_pos ex]⟩
  · exact absurd (by unfold mWhile; rw [dif_neg ex]) h
/-- one turn -/
theorem mWhile_eq (t : M Bool) (b : M Flw) : mWhile t b = bnd t fun c => if c then bnd b fun f => match f with
      | .nx => mWhile t b
      | .ct => mWhile t b
      | .bk => ret .nx
      | .rt s => ret (.rt s)
    else ret .nx := by
  funext δ
  by_cases h : ∃ n, loopN t b n δ ≠ .bad
  · obtain ⟨n, h⟩ := h
    rw [mWhile_of h]
    cases n with
    | zero => exact absurd rfl h
    | succ n =>
      refine (bnd_bad h fun c δ1 h1 => ?_).symm
      cases c with
      | false => rfl
      | true =>
        refine bnd_bad h1 fun f δ2 h2 => ?_
        cases f with
        | nx => exact mWhile_of h2
        | ct => exact mWhile_of h2
        | bk => rfl
        | rt s => rfl
  · have e : mWhile t b δ = .bad := by unfold mWhile; rw [dif_neg h]
    rw [e]
    have hb : ∀ n, loopN t b n δ = .bad := fun n => Classical.byContradiction fun q => h ⟨n, q⟩
    have h1 := fun n => hb (n + 1)
    simp only [loopN] at h1
    unfold bnd at h1 ⊢
    cases e1 : t δ with
    | bad => rfl
    | exn x δ1 => have := h1 0; simp only [e1] at this; cases this
    | ok c δ1 =>
      simp only [e1] at h1 ⊢
      cases c with
      | false => have := h1 0; simp only [Bool.false_eq_true, if_false, ret] at this; cases this
      | true =>
        simp only [if_true] at h1 ⊢
        cases e2 : b δ1 with
        | bad => rfl
        | exn x δ2 => have := h1 0; simp only [e2] at this; cases this
        | ok f δ2 =>
          simp only [e2] at h1 ⊢
          have fin : (∀ n, loopN t b n δ2 = .bad) → R.bad = mWhile t b δ2 := fun q => by
            have : ¬ ∃ n, loopN t b n δ2 ≠ .bad := fun ⟨n, z⟩ => z (q n)
            unfold mWhile; rw [dif_neg this]
          cases f with
          | nx => exact fin h1
          | ct => exact fin h1
          | bk => have := h1 0; simp only [ret] at this; cases this
          | rt s => have := h1 0; simp only [ret] at this; cases this
/-- a for over items -/
def forM (g : TgD) (b : M Flw) : List PyData → M Flw
  | [] => ret .nx
  | d :: ds => bnd (asg g (.dat d)) fun _ => bnd b fun f => match f with
    | .nx => forM g b ds
    | .ct => forM g b ds
    | .bk => ret .nx
    | .rt s => ret (.rt s)
def sFor (it : M (List PyData)) (g : TgD) (b : M Flw) : M Flw := bnd it fun ds => forM g b ds
def itemsOf : PyData → Option (List PyData)
  | .list ds => some ds
  | .tuple ds => some ds
  | .str z => some (z.cps.toList.map fun c => .str ⟨#[c]⟩)
  | _ => none
def itE (m : M Opd) : M (List PyData) := bnd m fun o => bnd (takeD o) fun d => match itemsOf d with
  | some ds => ret ds
  | none => stuck
/-- a comprehension's turns: its own names are empty at each turn's start -/
def wipeD (vs : List Nat) (δ : DS) : DS := vs.foldr (fun i δ => δ.set i none) δ
def compM (g : TgD) (t : M Bool) (e : M Opd) (vs : List Nat) : List PyData → List PyData → M (List PyData)
  | [], acc => ret acc
  | d :: ds, acc => bnd (fun δ => .ok () (wipeD vs δ)) fun _ => bnd (asg g (.dat d)) fun _ => bnd t fun c => if c then bnd e fun o => bnd (takeD o) fun y => if acc.length < sizeLine then compM g t e vs ds (acc ++ [y]) else stuck else compM g t e vs ds acc
/-- the own names of a comprehension get back what they held -/
def backD (vs : List Nat) (δ0 δ : DS) : DS := vs.foldr (fun i δ => δ.set i (at? δ0 i)) δ
def eComp (it : M (List PyData)) (g : TgD) (t : M Bool) (e : M Opd) (vs : List Nat) : M Opd := bnd it fun ds => fun δ => match compM g t e vs ds [] δ with
  | .ok acc δ' => .ok (.val (.lst acc)) (backD vs δ δ')
  | _ => .bad
end Ev

/-! D3: slots against names; the readings of the value semantics; names, operators, tests. -/
namespace Ev
open PySem L2

inductive Sl : St → DS → List (V × SV) → Prop
  | nil : Sl [] [] []
  | hole {x : Option V} {σ : St} {δ : DS} {L : List (V × SV)} : Sl σ δ L → Sl (x :: σ) (none :: δ) L
  | full {v : V} {s : SV} {σ : St} {δ : DS} {L : List (V × SV)} : Sl σ δ L → Sl (some v :: σ) (some s :: δ) ((v, s) :: L)
theorem Sl.length {σ : St} {δ : DS} {L : List (V × SV)} (h : Sl σ δ L) : σ.length = δ.length := by
  induction h with
  | nil => rfl
  | hole _ ih => simp [ih]
  | full _ ih => simp [ih]
theorem at?_set_same {δ : DS} {i : Nat} {o : Option SV} (h : i < δ.length) : at? (δ.set i o) i = o := by
  unfold at?; rw [List.getElem?_set_self h]; rfl
theorem at?_lt {δ : DS} {i : Nat} {s : SV} (h : at? δ i = some s) : i < δ.length := by
  unfold at? at h
  cases e : δ[i]? with
  | none => rw [e] at h; cases h
  | some o => exact (List.getElem?_eq_some_iff.mp e).1
/-- a slot that holds something -/
theorem Sl.get {σ : St} {δ : DS} {L : List (V × SV)} (h : Sl σ δ L) : ∀ {i : Nat} {s : SV}, at? δ i = some s →
    ∃ v L1 L2, L = L1 ++ (v, s) :: L2 ∧ σ[i]? = some (some v) ∧ (∀ s', Sl σ (δ.set i (some s')) (L1 ++ (v, s') :: L2)) ∧ Sl σ (δ.set i none) (L1 ++ L2) := by
  induction h with
  | nil => intro i s h; simp [at?] at h
  | @hole x σ δ L h ih =>
    intro i s hs
    cases i with
    | zero => simp [at?] at hs
    | succ i =>
      obtain ⟨v, L1, L2, e, e2, f, g⟩ := ih (i := i) (s := s) (by simpa [at?] using hs)
      exact ⟨v, L1, L2, e, by simpa using e2, fun s' => .hole (f s'), .hole g⟩
  | @full v s0 σ δ L h ih =>
    intro i s hs
    cases i with
    | zero =>
      have e : s0 = s := by simpa [at?] using hs
      subst e
      exact ⟨v, [], L, rfl, rfl, fun s' => .full h, .hole h⟩
    | succ i =>
      obtain ⟨v', L1, L2, e, e2, f, g⟩ := ih (i := i) (s := s) (by simpa [at?] using hs)
      exact ⟨v', (v, s0) :: L1, L2, by rw [e]; rfl, by simpa using e2, fun s' => .full (f s'), .full g⟩
/-- a slot is written -/
theorem Sl.put {σ : St} {δ : DS} {L : List (V × SV)} (h : Sl σ δ L) : ∀ {i : Nat} (v : V) (s : SV), i < σ.length →
    ∃ L1 L2 L3, L = L1 ++ L2 ++ L3 ∧ Sl (σ.set i (some v)) (δ.set i (some s)) (L1 ++ (v, s) :: L3) := by
  induction h with
  | nil => intro i v s h; simp at h
  | @hole x σ δ L h ih =>
    intro i v s hi
    cases i with
    | zero => exact ⟨[], [], L, rfl, .full h⟩
    | succ i =>
      obtain ⟨L1, L2, L3, e, f⟩ := ih (i := i) v s (by simpa using hi)
      exact ⟨L1, L2, L3, e, .hole f⟩
  | @full v0 s0 σ δ L h ih =>
    intro i v s hi
    cases i with
    | zero => exact ⟨[], [(v0, s0)], L, rfl, .full h⟩
    | succ i =>
      obtain ⟨L1, L2, L3, e, f⟩ := ih (i := i) v s (by simpa using hi)
      exact ⟨(v0, s0) :: L1, L2, L3, by rw [e]; rfl, .full f⟩
/-- an empty slot is filled again, the name as it is -/
theorem Sl.fill {σ : St} {δ : DS} {L : List (V × SV)} (h : Sl σ δ L) : ∀ {i : Nat} {v : V} (s : SV), σ[i]? = some (some v) → at? δ i = none →
    ∃ L1 L2, L = L1 ++ L2 ∧ Sl σ (δ.set i (some s)) (L1 ++ (v, s) :: L2) := by
  induction h with
  | nil => intro i v s h; simp at h
  | @hole x σ δ L h ih =>
    intro i v s hi hn
    cases i with
    | zero =>
      have e : x = some v := by simpa using hi
      subst e
      exact ⟨[], L, rfl, .full h⟩
    | succ i =>
      obtain ⟨L1, L2, e, f⟩ := ih (i := i) s (by simpa using hi) (by simpa [at?] using hn)
      exact ⟨L1, L2, e, .hole f⟩
  | @full v0 s0 σ δ L h ih =>
    intro i v s hi hn
    cases i with
    | zero => simp [at?] at hn
    | succ i =>
      obtain ⟨L1, L2, e, f⟩ := ih (i := i) s (by simpa using hi) (by simpa [at?] using hn)
      exact ⟨(v0, s0) :: L1, L2, by rw [e]; rfl, .full f⟩
/-- a slot is emptied -/
theorem Sl.clear {σ : St} {δ : DS} {L : List (V × SV)} (h : Sl σ δ L) : ∀ (i : Nat), ∃ L1 L2 L3, L = L1 ++ L2 ++ L3 ∧ Sl σ (δ.set i none) (L1 ++ L3) := by
  induction h with
  | nil => intro i; exact ⟨[], [], [], rfl, by simpa using Sl.nil⟩
  | @hole x σ δ L h ih =>
    intro i
    cases i with
    | zero => exact ⟨[], [], L, rfl, .hole h⟩
    | succ i =>
      obtain ⟨L1, L2, L3, e, f⟩ := ih i
      exact ⟨L1, L2, L3, e, .hole f⟩
  | @full v0 s0 σ δ L h ih =>
    intro i
    cases i with
    | zero => exact ⟨[], [(v0, s0)], L, rfl, .hole h⟩
    | succ i =>
      obtain ⟨L1, L2, L3, e, f⟩ := ih i
      exact ⟨(v0, s0) :: L1, L2, L3, by rw [e]; rfl, .full f⟩

/-- the state at a place of a def: T, what is held on the way -/
def Ste (K : PySem.W.Frag) (H0 : Hp) (O0 : List Addr) (σ : St) (H : Hp) (δ : DS) (T : List (V × SV)) : Prop := ∃ L, Sl σ δ L ∧ Rel K H0 O0 H (L ++ T)

/-- an exception as the value semantics tells it -/
def ExnOk (K : PySem.W.Frag) (H : Hp) (x : Exn) (cls : Value) (d : Option Addr) : Prop := ∃ C, cls = .ref C ∧ PySem.W.nsIn K mainGlobals x.cls = some (some (.ref C)) ∧
  ((d = none ∧ x.fs = []) ∨ ∃ (dd : Addr) (fs : List (Str × V)) (ds : List PyData), d = some dd ∧ H dd = some (.xd fs) ∧ IsAll K H (fs.map (·.2)) ds ∧ x.fs = (fs.map (·.1)).zip ds)

/-- data that can be read: nobody's, or a thing held alone -/
inductive Opn (K : PySem.W.Frag) (H : Hp) : V → PyData → Prop
  | dat {v : V} {d : PyData} : IsD K H v d → Opn K H v d
  | lst {a : Addr} {vs : List V} {ds : List PyData} : H a = some (.lst vs) → IsAll K H vs ds → Opn K H (.ref a) (.list ds)
  | dic {a : Addr} {kvs : List (Key × V)} {ds : List PyData} : H a = some (.dK kvs) → IsAll K H (kvs.map (·.2)) ds → Opn K H (.ref a) (.dict ((kvs.map fun p => kD p.1).zip ds))
/-- a value that comes out of what changes nothing -/
def Res (K : PySem.W.Frag) (H : Hp) (v : V) (s : SV) (H' : Hp) : Prop := Kp [] H H' ∧ ∃ o, Ent K H' (v, s) o ∧ o.Nodup ∧ ∀ a ∈ o, H a = none

section
variable {K : PySem.W.Frag} {H0 H H' : Hp} {O0 : List Addr} {σ : St} {δ δ' : DS} {T T' : List (V × SV)} {v : V} {s : SV} {d : PyData}
theorem Ent.opn {o : List Addr} (h : Ent K H (v, s) o) (e : s.data = some d) : Opn K H v d := by
  cases h with
  | dat h => cases e; exact .dat h
  | lst h t => cases e; exact .lst h t
  | dic h t => cases e; exact .dic h t
  | src _ _ => cases e
  | obj _ _ _ _ => cases e
  | scr _ => cases e
theorem Ste.drop (h : Ste K H0 O0 σ H δ (T' ++ T)) : Ste K H0 O0 σ H δ T := by
  obtain ⟨L, a, R⟩ := h
  refine ⟨L, a, ?_⟩
  have R' : Rel K H0 O0 H (T' ++ (L ++ T)) := R.perm (by rw [← List.append_assoc, ← List.append_assoc]; exact List.perm_append_comm.append_right _)
  exact R'.drop
theorem Ste.drop1 {e : V × SV} (h : Ste K H0 O0 σ H δ (e :: T)) : Ste K H0 O0 σ H δ T := Ste.drop (T' := [e]) h
theorem Ste.perm (h : Ste K H0 O0 σ H δ T) (p : T.Perm T') : Ste K H0 O0 σ H δ T' := by
  obtain ⟨L, a, R⟩ := h
  exact ⟨L, a, R.perm (p.append_left _)⟩
/-- the things Tc in front are exchanged -/
theorem Ste.step {Tc Tn Tr : List (V × SV)} (h : Ste K H0 O0 σ H δ (Tc ++ Tr)) (k : ∀ oc, Ents K H Tc oc → oc.Nodup → ∃ on, Ents K H' Tn on ∧ on.Nodup ∧ (∀ a ∈ on, a ∈ oc ∨ H a = none) ∧ Kp oc H H') : Ste K H0 O0 σ H' δ (Tn ++ Tr) := by
  obtain ⟨L, a, R⟩ := h
  refine ⟨L, a, ?_⟩
  have R' : Rel K H0 O0 H (Tc ++ (L ++ Tr)) := R.perm (by rw [← List.append_assoc, ← List.append_assoc]; exact List.perm_append_comm.append_right _)
  refine (R'.step k).perm ?_
  rw [← List.append_assoc, ← List.append_assoc]
  exact List.perm_append_comm.append_right _
theorem Ste.res (h : Ste K H0 O0 σ H δ T) (r : Res K H v s H') : Ste K H0 O0 σ H' δ ((v, s) :: T) := by
  obtain ⟨k, o, e, n, f⟩ := r
  refine Ste.step (Tc := []) (Tn := [(v, s)]) h fun oc hc _ => ?_
  cases hc
  exact ⟨o, by simpa using Ents.cons e .nil, n, fun a ha => .inr (f a ha), k⟩
theorem Ste.ent {e : V × SV} (h : Ste K H0 O0 σ H δ T) (m : e ∈ T) : ∃ o, Ent K H e o := by
  obtain ⟨L, _, R⟩ := h
  exact R.ent (List.mem_append_right _ m)
theorem Ste.slot {i : Nat} (h : Ste K H0 O0 σ H δ T) (e : at? δ i = some s) : ∃ v, σ[i]? = some (some v) ∧ ∃ o, Ent K H (v, s) o := by
  obtain ⟨L, a, R⟩ := h
  obtain ⟨v, L1, L2, rfl, e2, _⟩ := a.get e
  exact ⟨v, e2, R.ent (by simp)⟩
theorem Res.dat (k : Kp [] H H') (i : IsD K H' v d) : Res K H v (.dat d) H' := ⟨k, [], .dat i, List.nodup_nil, fun a ha => by simp at ha⟩
theorem Res.same (i : IsD K H v d) : Res K H v (.dat d) H := Res.dat (Kp.refl _ _) i
theorem Res.lst {p : Addr} {vs : List V} {ds : List PyData} (h : H p = none) (i : IsAll K H vs ds) : Res K H (.ref p) (.lst ds) (upd H p (.lst vs)) := by
  have k : Kp [] H (upd H p (.lst vs)) := Kp.new h
  exact ⟨k, [p], .lst upd_same (i.stays (k.stays fun a ha => by simp at ha)), by simp, fun a ha => by simp at ha; subst ha; exact h⟩
theorem Res.tup {p : Addr} {vs : List V} {ds : List PyData} (h : H p = none) (i : IsAll K H vs ds) : Res K H (.ref p) (.dat (.tuple ds)) (upd H p (.tup vs)) := by
  have k : Kp [] H (upd H p (.tup vs)) := Kp.new h
  exact Res.dat k (.tup (.inl (.inl upd_same)) (i.stays (k.stays fun a ha => by simp at ha)))
end

/-! ### readings -/
def OpdV (σ : St) (v : V) : Opd → Prop
  | .val _ => True
  | .slot i => σ[i]? = some (some v)
def tmp (v : V) : Opd → List (V × SV)
  | .val s => [(v, s)]
  | .slot _ => []
def tE (K : PySem.W.Frag) (W : WX) (m : M Opd) : TE := fun σ H Q => ∃ H0 O0 T δ, Ste K H0 O0 σ H δ T ∧ match m δ with
  | .ok o δ' => ∀ v H', OpdV σ v o → Ste K H0 O0 σ H' δ' (tmp v o ++ T) → Q v H'
  | .exn x δ' => ∀ cls d H', ExnOk K H' x cls d → Ste K H0 O0 σ H' δ' T → W cls d σ H'
  | .bad => False
def tT (K : PySem.W.Frag) (W : WX) (m : M Bool) : TT := fun σ H Q => ∃ H0 O0 T δ, Ste K H0 O0 σ H δ T ∧ match m δ with
  | .ok b δ' => ∀ H', Ste K H0 O0 σ H' δ' T → Q b H'
  | .exn x δ' => ∀ cls d H', ExnOk K H' x cls d → Ste K H0 O0 σ H' δ' T → W cls d σ H'
  | .bad => False
/-- the temporaries of a row of operands, the last one in front -/
def tmps : List V → List Opd → List (V × SV)
  | v :: vs, o :: os => tmps vs os ++ tmp v o
  | _, _ => []
inductive OpdVs (σ : St) : List V → List Opd → Prop
  | nil : OpdVs σ [] []
  | cons {v : V} {o : Opd} {vs : List V} {os : List Opd} : OpdV σ v o → OpdVs σ vs os → OpdVs σ (v :: vs) (o :: os)
def tA (K : PySem.W.Frag) (W : WX) (m : M (List Opd)) : TA := fun σ H Q => ∃ H0 O0 T δ, Ste K H0 O0 σ H δ T ∧ match m δ with
  | .ok os δ' => ∀ vs H', OpdVs σ vs os → Ste K H0 O0 σ H' δ' (tmps vs os ++ T) → Q vs H'
  | .exn x δ' => ∀ cls d H', ExnOk K H' x cls d → Ste K H0 O0 σ H' δ' T → W cls d σ H'
  | .bad => False
end Ev
namespace L2
open PySem
theorem PE.imp {X : Cx} {e : Expr} {t t' : TE} (h : PE X e t) (f : ∀ σ H Q, t' σ H Q → t σ H Q) : PE X e t' := ⟨fun pins s σ H Q I q => h.run pins s σ H Q I (f σ H Q q)⟩
theorem PT.imp {X : Cx} {e : Expr} {t t' : TT} (h : PT X e t) (f : ∀ σ H Q, t' σ H Q → t σ H Q) : PT X e t' := ⟨fun pins s σ H Q I q => h.run pins s σ H Q I (f σ H Q q)⟩
theorem PW.imp {X : Cx} {e : Expr} {t t' : TT} (h : PW X e t) (f : ∀ σ H Q, t' σ H Q → t σ H Q) : PW X e t' := ⟨fun wh pins s σ H Q I q => h.run wh pins s σ H Q I (f σ H Q q)⟩
theorem PA.imp {X : Cx} {es : List Expr} {t t' : TA} (h : PA X es t) (f : ∀ σ H Q, t' σ H Q → t σ H Q) : PA X es t' := ⟨fun pos pins s σ H Q I q => h.run pos pins s σ H Q I (f σ H Q q)⟩
end L2
namespace Ev
open PySem L2
abbrev SE (X : Cx) (W : WX) (e : Expr) (m : M Opd) : Prop := PE X e (tE X.K W m)
abbrev ST (X : Cx) (W : WX) (e : Expr) (m : M Bool) : Prop := PT X e (tT X.K W m)
abbrev SA (X : Cx) (W : WX) (es : List Expr) (m : M (List Opd)) : Prop := PA X es (tA X.K W m)

section
variable {X : Cx} {W : WX} {pos : Pos}
/-! ### names and constants -/
theorem eSlot_t {K : PySem.W.Frag} {i : Nat} {σ : St} {H : Hp} {Q : VK} (h : tE K W (eSlot i) σ H Q) : tVar i σ H Q := by
  obtain ⟨H0, O0, T, δ, st, hm⟩ := h
  unfold eSlot at hm
  cases e : at? δ i with
  | none => simp only [e] at hm
  | some s =>
    obtain ⟨v, ev, o, en⟩ := st.slot e
    refine ⟨v, ev, ?_⟩
    cases s with
    | dat d =>
      simp only [e] at hm
      cases en with
      | dat hd => exact hm v H True.intro (st.res (Res.same hd))
    | lst ds => simp only [e] at hm; exact hm v H ev st
    | dic kvs => simp only [e] at hm; exact hm v H ev st
    | src S => simp only [e] at hm; exact hm v H ev st
    | obj C fs => simp only [e] at hm; exact hm v H ev st
    | scr ns => simp only [e] at hm; exact hm v H ev st
theorem se_name {i : Nat} {x : Str} (hN : X.N[i]? = some x) (hv : Vis X.env.scope x) (hd : (x == ("__debug__" : Str)) = false) (hcd : (x == ("__classdict__" : Str)) = false) : SE X W (.Name x pos) (eSlot i) :=
  (pe_var hN hv hd hcd).imp fun _ _ _ h => eSlot_t h
theorem eDat_t {K : PySem.W.Frag} {d : PyData} {v : V} (hv : ∀ H, IsD K H v d) {σ : St} {H : Hp} {Q : VK} (h : tE K W (eDat d) σ H Q) : tC v σ H Q := by
  obtain ⟨H0, O0, T, δ, st, hm⟩ := h
  exact hm v H True.intro (st.res (Res.same (hv H)))
theorem se_int {i : Int} {k : Nat} : SE X W (.Constant (.int i) k pos) (eDat (.int i)) := pe_int.imp fun _ _ _ h => eDat_t (fun _ => .int i) h
theorem se_bool {b : Bool} {k : Nat} : SE X W (.Constant (.bool b) k pos) (eDat (.bool b)) := pe_bl.imp fun _ _ _ h => eDat_t (fun _ => .bl b) h
theorem se_none {k : Nat} : SE X W (.Constant .none k pos) (eDat .none) := pe_non.imp fun _ _ _ h => eDat_t (fun _ => .non) h
theorem se_str {x : Str} {k : Nat} : SE X W (.Constant (.str x) k pos) (eDat (.str x)) := pe_str.imp fun _ _ _ h => eDat_t (fun _ => .str x) h
theorem se_glob {x : Str} {d : PyData} {v : V} {u : Value} (hg : Gl X x) (hm : X.mg x = some u) (r : RelV v u) (hv : ∀ H, IsD X.K H v d) (hd : (x == ("__debug__" : Str)) = false) : SE X W (.Name x pos) (eDat d) :=
  (pe_glob hg hm r hd).imp fun _ _ _ h => eDat_t hv h

/-! ### rows of operands -/
theorem sa_nil : SA X W [] (evs []) := pa_nil.imp fun σ H Q h => by
  obtain ⟨H0, O0, T, δ, st, hm⟩ := h
  exact hm [] H .nil st
/-- not a starred one -/
def plainE : Expr → Bool
  | .Starred _ _ => false
  | _ => true
theorem star_plain {e : Expr} (h : plainE e = true) (es : List Expr) (env : Env) : starEach (e :: es) env = (false, eval e env) :: starEach es env := by
  cases e <;> first | rfl | cases h
theorem sa_cons {e : Expr} {es : List Expr} {m : M Opd} {ms : M (List Opd)} (hp : plainE e = true) (h : SE X W e m) (hs : SA X W es ms) : SA X W (e :: es) (bnd m fun o => bnd ms fun os => ret (o :: os)) :=
  (pa_cons h hs (star_plain hp es X.env)).imp fun σ H Q h => by
    obtain ⟨H0, O0, T, δ, st, hm⟩ := h
    refine ⟨H0, O0, T, δ, st, ?_⟩
    unfold bnd at hm
    cases e1 : m δ with
    | bad => simp only [e1] at hm
    | exn x δ1 => simp only [e1] at hm; exact hm
    | ok o δ1 =>
      simp only [e1] at hm
      show ∀ v H', OpdV σ v o → Ste X.K H0 O0 σ H' δ1 (tmp v o ++ T) → tA X.K W ms σ H' fun xs H2 => Q (v :: xs) H2
      intro v H1 ov st1
      refine ⟨H0, O0, tmp v o ++ T, δ1, st1, ?_⟩
      cases e2 : ms δ1 with
      | bad => simp only [e2] at hm
      | exn x δ2 => simp only [e2] at hm; exact fun cls d H' a b => hm cls d H' a b.drop
      | ok os δ2 =>
        simp only [e2, ret] at hm
        intro vs H2 ovs st2
        exact hm (v :: vs) H2 (.cons ov ovs) (by simpa [tmps] using st2)
theorem datas_opn {K : PySem.W.Frag} {H0 H : Hp} {O0 : List Addr} {σ : St} {δ : DS} : ∀ {os : List Opd} {vs : List V} {T : List (V × SV)} {ds : List PyData}, OpdVs σ vs os → Ste K H0 O0 σ H δ (tmps vs os ++ T) → datas δ os = some ds → Paired (Opn K H) vs ds
  | [], _, _, _, .nil, _, h => by cases h; exact .nil
  | o :: os, v :: vs, T, ds, .cons a b, st, h => by
    unfold datas at h
    cases e : o.data δ with
    | none => rw [e] at h; cases h
    | some d =>
      rw [e] at h
      cases e2 : datas δ os with
      | none => simp only [e2] at h; cases h
      | some ds' =>
        simp only [e2] at h
        cases h
        refine .cons ?_ (datas_opn (T := tmp v o ++ T) b (by simpa [tmps] using st) e2)
        cases o with
        | val s =>
          obtain ⟨oo, en⟩ := st.ent (e := (v, s)) (by simp [tmps, tmp])
          exact en.opn e
        | slot i =>
          have e' : (at? δ i).bind SV.data = some d := e
          cases e3 : at? δ i with
          | none => rw [e3] at e'; cases e'
          | some s =>
            rw [e3] at e'
            obtain ⟨v', ev, oo, en⟩ := st.slot e3
            have q : v' = v := by
              have a' : σ[i]? = some (some v) := a
              rw [ev] at a'; simpa using a'
            subst q
            exact en.opn e'
/-- what an operation out of data wants -/
def rN (K : PySem.W.Frag) (f : List PyData → Option SV) : List V → Hp → VK → Prop := fun vs H Q => ∃ ds s, Paired (Opn K H) vs ds ∧ f ds = some s ∧ ∀ v H', Res K H v s H' → Q v H'
/-- THE OPERATIONS: operands one behind another, then a rule by values -/
theorem eOp_t {K : PySem.W.Frag} {f : List PyData → Option SV} {m : M (List Opd)} {σ : St} {H : Hp} {Q : VK} (h : tE K W (bnd m (opN f)) σ H Q) : tA K W m σ H fun vs H1 => rN K f vs H1 Q := by
  obtain ⟨H0, O0, T, δ, st, hm⟩ := h
  refine ⟨H0, O0, T, δ, st, ?_⟩
  unfold bnd at hm
  cases e1 : m δ with
  | bad => simp only [e1] at hm
  | exn x δ1 => simp only [e1] at hm; exact hm
  | ok os δ1 =>
    simp only [e1, opN] at hm
    intro vs H1 ovs st1
    cases e2 : datas δ1 os with
    | none => simp only [e2] at hm
    | some ds =>
      simp only [e2] at hm
      cases e3 : f ds with
      | none => simp only [e3] at hm
      | some s =>
        simp only [e3] at hm
        exact ⟨ds, s, datas_opn ovs st1 e2, e3, fun v H' r => hm v H' True.intro (by
          have := st1.res r
          exact (Ste.drop (T' := tmps vs os) (Ste.perm this (by
            have p := (List.perm_append_comm (l₁ := [(v, s)]) (l₂ := tmps vs os)).append_right T
            rw [List.append_assoc, List.append_assoc] at p
            exact p))))⟩
end
end Ev

/-! D4: operators by values. -/
namespace Ev
open PySem L2

section
variable {K : PySem.W.Frag} {H : Hp} {v : V} {d : PyData}
theorem Opn.int {i : Int} (h : Opn K H v (.int i)) : v = .int i := by cases h with | dat h => cases h; rfl
theorem Opn.bool {i : Bool} (h : Opn K H v (.bool i)) : v = .bl i := by cases h with | dat h => cases h; rfl
theorem Opn.str {x : Str} (h : Opn K H v (.str x)) : v = .str x := by cases h with | dat h => cases h; rfl
theorem Opn.none (h : Opn K H v .none) : v = .non := by cases h with | dat h => cases h; rfl
theorem Opn.list {ds : List PyData} (h : Opn K H v (.list ds)) : ∃ a vs, v = .ref a ∧ Rd H a (.lst vs) ∧ IsAll K H vs ds := by
  cases h with
  | dat h => cases h with | lst h t => obtain ⟨o, h⟩ := h; exact ⟨_, _, rfl, .inr ⟨o, h⟩, t⟩
  | lst h t => exact ⟨_, _, rfl, .inl h, t⟩
theorem Opn.tuple {ds : List PyData} (h : Opn K H v (.tuple ds)) : ∃ a vs, v = .ref a ∧ SqT K H a vs ∧ IsAll K H vs ds := by
  cases h with
  | dat h => cases h with | tup h t => exact ⟨_, _, rfl, h, t⟩
mutual
theorem IsD.dp : ∀ {d : PyData} {v : V}, IsD K H v d → d.canLay0 = true → Dp K H v d
  | .none, _, .non, _ => .non
  | .bool _, _, .bl b, _ => .bl b
  | .int _, _, .int i, _ => .int i
  | .str _, _, .str x, _ => .str x
  | .list ds, _, .lst h t, c => by
    obtain ⟨o, h⟩ := h
    exact .lst (.inl (.inr ⟨o, h⟩)) (IsAll.dp t (by simpa [PyData.canLay0] using c))
  | .tuple ds, _, .tup h t, c => .tup h (IsAll.dp t (by simpa [PyData.canLay0] using c))
  | .dict _, _, .dic _ _, c => by simp [PyData.canLay0] at c
theorem IsAll.dp : ∀ {ds : List PyData} {vs : List V}, IsAll K H vs ds → PyData.canLayAll0 ds = true → DpAll K H vs ds
  | [], _, .nil, _ => .nil
  | d :: ds, _, .cons h t, c => by
    have c' : d.canLay0 = true ∧ PyData.canLayAll0 ds = true := by simpa [PyData.canLayAll0] using c
    exact .cons (h.dp c'.1) (IsAll.dp t c'.2)
end
theorem Opn.dp (h : Opn K H v d) (c : d.canLay0 = true) : Dp K H v d := by
  cases h with
  | dat h => exact h.dp c
  | lst h t => exact .lst (.inl (.inl h)) (t.dp (by simpa [PyData.canLay0] using c))
  | dic _ _ => simp [PyData.canLay0] at c
end

/-- an operation of two data by values -/
def OpN (X : Cx) (f : Value → Value → Sem Value) (g : List PyData → Option SV) : Prop := OpR X f fun x y H Q => rN X.K g [x, y] H Q
section
variable {X : Cx} {W : WX} {pos : Pos}
theorem two_opn {K : PySem.W.Frag} {H : Hp} {x y : V} {ds : List PyData} (h : Paired (Opn K H) [x, y] ds) : ∃ d e, ds = [d, e] ∧ Opn K H x d ∧ Opn K H y e := by
  cases h with | cons a t => cases t with | cons b t => cases t; exact ⟨_, _, rfl, a, b⟩
theorem one_opn {K : PySem.W.Frag} {H : Hp} {x : V} {ds : List PyData} (h : Paired (Opn K H) [x] ds) : ∃ d, ds = [d] ∧ Opn K H x d := by
  cases h with | cons a t => cases t; exact ⟨_, rfl, a⟩
theorem Inv.lstR {pins : List (Addr × Obj)} {σ : St} {H : Hp} {s : Shared} {l : Addr} {xs : List V} (I : Inv X pins σ H s) (hH : Rd H l (.lst xs)) : xs.length ≤ sizeLine ∧ ∃ (its : List Value) (n : Nat), Vals xs its ∧ xs.length = its.length ∧ s.heap.get? l = some { cls := .type "list", data := .seq its.toArray n } := by
  obtain ⟨z, its, n, r, e⟩ := hH.ok I.hok
  exact ⟨z, its, n, r, r.length, e⟩
theorem opn_add : OpN X (binaryOp .Add) (g2 gAdd) := by
  intro pins s σ H x y v u Q I rx ry h
  obtain ⟨ds, sv, po, e, q⟩ := h
  obtain ⟨d, e', rfl, a, b⟩ := two_opn po
  have e : gAdd d e' = some sv := e
  unfold gAdd at e
  split at e
  · cases e
    cases a.int; cases b.int
    exact op_add pins s σ H _ _ v u Q I rx ry ⟨_, _, rfl, rfl, q _ _ (Res.same (.int _))⟩
  · unfold cat? at e
    split at e
    · cases e
      cases a.str; cases b.str
      exact op_add_str pins s σ H _ _ v u Q I rx ry ⟨_, _, rfl, rfl, by assumption, q _ _ (Res.same (.str _))⟩
    · cases e
  · split at e
    · rename_i hz
      cases e
      obtain ⟨a1, vs, rfl, h1, t1⟩ := a.tuple
      obtain ⟨a2, ws, rfl, h2, t2⟩ := b.tuple
      refine op_catA pins s σ H _ _ v u Q I rx ry ⟨a1, a2, vs, ws, rfl, rfl, h1, h2, by rw [t1.length, t2.length]; exact hz, fun z => ?_, fun z z' => ?_, fun _ _ p hp => ?_⟩
      · subst z; cases t1; exact q _ _ (Res.same (.tup h2 t2))
      · subst z'; cases t2; exact q _ _ (Res.same (.tup h1 (by simpa using t1)))
      · exact q _ _ (Res.tup hp (t1.append t2))
    · cases e
  · split at e
    · rename_i hz
      cases e
      obtain ⟨a1, vs, rfl, h1, t1⟩ := a.list
      obtain ⟨a2, ws, rfl, h2, t2⟩ := b.list
      cases rx
      cases ry
      obtain ⟨z1, its, n, r, hl, e1⟩ := Inv.lstR I h1
      obtain ⟨z2, its2, n2, r2, hl2, e2⟩ := Inv.lstR I h2
      refine PySem.P.add_list e1 e2 ?_ (by rw [List.size_toArray, List.size_toArray, ← hl, ← hl2, t1.length, t2.length]; exact hz)
      have ea : its.toArray ++ its2.toArray = (its ++ its2).toArray := by simp
      rw [ea]
      exact ⟨.ref _, _, I.lnew (t' := s.toks) (r.append r2) (by rw [List.length_append, t1.length, t2.length]; exact hz), rfl, q _ _ (Res.lst I.fresh (t1.append t2))⟩
    · cases e
  · cases e
theorem opn_sub : OpN X (binaryOp .Sub) (g2 gSub) := by
  intro pins s σ H x y v u Q I rx ry h
  obtain ⟨ds, sv, po, e, q⟩ := h
  obtain ⟨d, e', rfl, a, b⟩ := two_opn po
  have e : gSub d e' = some sv := e
  unfold gSub at e
  split at e
  · cases e
    cases a.int; cases b.int
    exact op_sub pins s σ H _ _ v u Q I rx ry ⟨_, _, rfl, rfl, q _ _ (Res.same (.int _))⟩
  · cases e
theorem opn_div : OpN X (binaryOp .FloorDiv) (g2 gDiv) := by
  intro pins s σ H x y v u Q I rx ry h
  obtain ⟨ds, sv, po, e, q⟩ := h
  obtain ⟨d, e', rfl, a, b⟩ := two_opn po
  have e : gDiv d e' = some sv := e
  unfold gDiv at e
  split at e
  · split at e
    · cases e
      cases a.int; cases b.int
      exact op_fdiv pins s σ H _ _ v u Q I rx ry ⟨_, _, rfl, rfl, by assumption, q _ _ (Res.same (.int _))⟩
    · cases e
  · cases e
theorem opn_mod : OpN X (binaryOp .Mod) (g2 gMod) := by
  intro pins s σ H x y v u Q I rx ry h
  obtain ⟨ds, sv, po, e, q⟩ := h
  obtain ⟨d, e', rfl, a, b⟩ := two_opn po
  have e : gMod d e' = some sv := e
  unfold gMod at e
  split at e
  · split at e
    · cases e
      cases a.int; cases b.int
      exact op_mod pins s σ H _ _ v u Q I rx ry ⟨_, _, rfl, rfl, by assumption, q _ _ (Res.same (.int _))⟩
    · cases e
  · cases e
theorem opn_shl : OpN X (binaryOp .LShift) (g2 gShl) := by
  intro pins s σ H x y v u Q I rx ry h
  obtain ⟨ds, sv, po, e, q⟩ := h
  obtain ⟨d, e', rfl, a, b⟩ := two_opn po
  have e : gShl d e' = some sv := e
  unfold gShl at e
  split at e
  · split at e
    · cases e
      cases a.int; cases b.int
      exact op_shl pins s σ H _ _ v u Q I rx ry ⟨_, _, rfl, rfl, by assumption, q _ _ (Res.same (.int _))⟩
    · cases e
  · cases e
theorem opn_shr : OpN X (binaryOp .RShift) (g2 gShr) := by
  intro pins s σ H x y v u Q I rx ry h
  obtain ⟨ds, sv, po, e, q⟩ := h
  obtain ⟨d, e', rfl, a, b⟩ := two_opn po
  have e : gShr d e' = some sv := e
  unfold gShr at e
  split at e
  · split at e
    · cases e
      cases a.int; cases b.int
      exact op_shr pins s σ H _ _ v u Q I rx ry ⟨_, _, rfl, rfl, by assumption, q _ _ (Res.same (.int _))⟩
    · cases e
  · cases e
theorem opn_pow : OpN X (binaryOp .Pow) (g2 gPow) := by
  intro pins s σ H x y v u Q I rx ry h
  obtain ⟨ds, sv, po, e, q⟩ := h
  obtain ⟨d, e', rfl, a, b⟩ := two_opn po
  have e : gPow d e' = some sv := e
  unfold gPow at e
  split at e
  · split at e
    · cases e
      cases a.int; cases b.int
      exact op_pow pins s σ H _ _ v u Q I rx ry ⟨_, _, rfl, rfl, by assumption, q _ _ (Res.same (.int _))⟩
    · cases e
  · cases e
theorem isall_flat {K : PySem.W.Frag} {H : Hp} {vs : List V} {ds : List PyData} (h : IsAll K H vs ds) : ∀ k : Nat, IsAll K H (List.replicate k vs).flatten (List.replicate k ds).flatten
  | 0 => .nil
  | k + 1 => by rw [List.replicate_succ, List.replicate_succ, List.flatten_cons, List.flatten_cons]; exact h.append (isall_flat h k)
open PyProof.Rows PySem.Spec in
/-- xs * k, whoever holds xs -/
theorem rep_list {pins : List (Addr × Obj)} {s : Shared} {σ : L2.St} {H : Hp} {Q : VK} {l : Addr} {xs : List V} {k : Int} {v u : Value} (I : Inv X pins σ H s) (rx : RelV (.ref l) v) (ry : RelV (.int k) u)
    (hH : Rd H l (.lst xs)) (h1 : -(2 ^ 63) ≤ k) (h2 : k < 2 ^ 63) (hz : xs.length * k.toNat ≤ sizeLine)
    (q : ∀ p, H p = none → Q (.ref p) (upd H p (.lst (List.replicate k.toNat xs).flatten))) : wpAny (model X.prog X.w) X.A (binaryOp .Mult v u) (EP X pins σ Q) X.xe s := by
  cases rx
  obtain ⟨t, rfl⟩ := ry
  obtain ⟨z, its, n, r, hl, e⟩ := Inv.lstR I hH
  have n1 : its.toArray.size * k.toNat ≤ sizeLine := by
    rw [List.size_toArray, ← hl]; exact hz
  have n2 : ¬ its.toArray.size * k.toNat > (2 ^ 63 - 1) / 8 := by
    have w : (sizeLine : Nat) ≤ (2 ^ 63 - 1) / 8 := by decide
    omega
  have n3 : ¬ (!Builtin.List.listFitsIndex k) = true := by rw [fitsIndex_both h1 h2]; simp
  have n4 : ¬ Builtin.List.listTooLong (its.toArray.size * k.toNat) = true := by rw [notLongL n1]; simp
  have f0 : ∀ m : Nat, List.foldl (· ++ ·) #[] (List.replicate m its.toArray) = (List.replicate m its).flatten.toArray := fun m => by
    have w := foldl_rep its m []
    rw [List.nil_append] at w
    exact w
  have n5 : List.foldl (fun x y => x ++ y) #[] (List.replicate (if its.toArray.isEmpty = true then 0 else k.toNat) its.toArray) = (List.replicate k.toNat its).flatten.toArray := by
    rw [f0]
    cases its with
    | nil => simp
    | cons a b => simp
  refine wpAny_binaryOp_repeat_ref (T := "list")
    (U := "int") (by decide) ⟨_, e, rfl⟩
    (fun s' => typeIs_int s' k t) noFill_list_mul
    F.fills_int_mul F.slot_int_rmul repeat_list
    F.slot_int_index.lookup ?_
  refine call_meets F.slot_int_rmul (typeIs_int s k t)
    F.entry_int_rmul (F.args_int_rmul_2 _ _)
    (int___rmul___int_list k t l its.toArray n) ⟨e, rfl, ⟨_, e, rfl⟩, ?_⟩
  refine call_meets F.slot_list_mul ⟨_, e, rfl⟩
    F.entry_list_mul (F.args_list_mul_2 _ _)
    (AutoListH.list___mul___list_int_3 l its.toArray n k t n3 n2 n4) ⟨e, ?_⟩
  rw [n5]
  exact ⟨.ref _, _, I.lnew (t' := s.toks) (r.rep k.toNat) (by rw [PyProof.Rows.lm_len_rep_flat, Nat.mul_comm]; exact hz), rfl, q _ I.fresh⟩
theorem mulOk_of {x : Str} {k : Int} (c : 1 ≤ k ∧ k ≤ 1000 ∧ x.length ≤ 1000) : MulOk x k := by
  obtain ⟨c1, c2, c3⟩ := c
  have hm : (x.length : Int) * k ≤ 1000 * 1000 := Int.mul_le_mul (by omega) c2 (by omega) (by omega)
  refine ⟨by simp; omega, fun _ _ h => ?_, fun _ _ => ?_⟩
  · have := (Int.le_ediv_iff_mul_le (show (0 : Int) < k by omega)).mpr (show (x.length : Int) * k ≤ 2 ^ 63 - 1 by omega)
    omega
  · have : x.length * k.toNat ≤ 1000 * 1000 := Nat.mul_le_mul c3 (by omega)
    refine decide_eq_false ?_
    have := sizeLine_eq
    omega
theorem opn_mul : OpN X (binaryOp .Mult) (g2 gMul) := by
  intro pins s σ H x y v u Q I rx ry h
  obtain ⟨ds, sv, po, e, q⟩ := h
  obtain ⟨d, e', rfl, a, b⟩ := two_opn po
  have e : gMul d e' = some sv := e
  unfold gMul at e
  split at e
  · split at e
    · cases e
      cases a.int; cases b.int
      exact op_mul pins s σ H _ _ v u Q I rx ry ⟨_, _, rfl, rfl, by assumption, q _ _ (Res.same (.int _))⟩
    · cases e
  · split at e
    · rename_i z k c
      cases e
      cases a.str; cases b.int
      obtain ⟨t1, rfl⟩ := rx
      obtain ⟨t2, rfl⟩ := ry
      exact SB.mul (mulOk_of c) fun t' k' => ⟨.str _, H, I.tok _, ⟨_, rfl⟩, q _ _ (Res.same (.str _))⟩
    · cases e
  · split at e
    · rename_i xs k _ hz
      cases e
      cases b.int
      obtain ⟨a1, vs, rfl, h1, t1⟩ := a.list
      exact rep_list I rx ry h1 hz.1 hz.2.1 (by rw [t1.length]; exact hz.2.2) fun p hp => q _ _ (Res.lst hp (isall_flat t1 _))
    · cases e
  · cases e
end
end Ev

/-! D5: comparisons, items, slices by values. -/
namespace Ev
open PySem L2
section
variable {X : Cx}
theorem Opn.nn {K : PySem.W.Frag} {H : Hp} {v : V} {d : PyData} (h : Opn K H v d) : decide (v = V.non) = isNn d := by
  cases h with
  | dat h => cases h <;> simp [isNn]
  | lst _ _ => simp [isNn]
  | dic _ _ => simp [isNn]
theorem opn_eq (hu : X.A.units + 65 < cLine) : OpN X (compareOp .Eq) (gB2 eq?) := by
  intro pins s σ H x y v u Q I rx ry h
  obtain ⟨ds, sv, po, e, q⟩ := h
  obtain ⟨d, e', rfl, a, b⟩ := two_opn po
  have e : (eq? d e').map (fun b => SV.dat (.bool b)) = some sv := e
  unfold eq? at e
  split at e
  · rename_i hc
    simp only [Bool.and_eq_true, decide_eq_true_eq] at hc
    cases e
    obtain ⟨as, r1⟩ := Dp.reads I d x v (a.dp hc.1.1) rx
    obtain ⟨bs, r2⟩ := Dp.reads I e' y u (b.dp hc.1.2) ry
    exact SeqAt.compareEq_reads r1 r2 hc.1.1 hc.1.2 (by omega) ⟨.bl _, H, I, rfl, q _ _ (Res.same (.bl _))⟩
  · unfold strEq? at e
    split at e
    · cases e
      cases a with | dat a => cases a with | str => cases b with | dat b => cases b with | str =>
        obtain ⟨t, rfl⟩ := rx
        obtain ⟨t', rfl⟩ := ry
        exact PySem.P.eq_str ⟨.bl _, H, I, rfl, q _ _ (Res.same (.bl _))⟩
    · cases e
theorem opn_ne (hu : X.A.units + 65 < cLine) : OpN X (compareOp .NotEq) (gB2 fun d e => (eq? d e).map (!·)) := by
  intro pins s σ H x y v u Q I rx ry h
  obtain ⟨ds, sv, po, e, q⟩ := h
  obtain ⟨d, e', rfl, a, b⟩ := two_opn po
  have e : ((eq? d e').map (!·)).map (fun b => SV.dat (.bool b)) = some sv := e
  unfold eq? at e
  split at e
  · rename_i hc
    simp only [Bool.and_eq_true, decide_eq_true_eq] at hc
    cases e
    obtain ⟨as, r1⟩ := Dp.reads I d x v (a.dp hc.1.1) rx
    obtain ⟨bs, r2⟩ := Dp.reads I e' y u (b.dp hc.1.2) ry
    exact SeqAt.compareNe_reads r1 r2 hc.1.1 hc.1.2 (by omega) ⟨.bl _, H, I, rfl, q _ _ (Res.same (.bl _))⟩
  · unfold strEq? at e
    split at e
    · cases e
      cases a with | dat a => cases a with | str => cases b with | dat b => cases b with | str =>
        obtain ⟨t, rfl⟩ := rx
        obtain ⟨t', rfl⟩ := ry
        exact PySem.P.ne_str ⟨.bl _, H, I, rfl, q _ _ (Res.same (.bl _))⟩
    · cases e
theorem opn_in (hu : X.A.units + 65 < cLine) : OpN X (compareOp .In) (gB2 in?) := by
  intro pins s σ H x y v u Q I rx ry h
  obtain ⟨ds, sv, po, e, q⟩ := h
  obtain ⟨d, e', rfl, a, b⟩ := two_opn po
  have e : (in? d e').map (fun b => SV.dat (.bool b)) = some sv := e
  unfold in? at e
  split at e
  · split at e
    · cases e
      cases a.str; cases b.str
      exact op_in_str pins s σ H _ _ v u Q I rx ry ⟨_, _, rfl, rfl, q _ _ (Res.same (.bl _))⟩
    · cases e
  · unfold inAll? at e
    split at e
    · rename_i ys hc
      simp only [Bool.and_eq_true, decide_eq_true_eq] at hc
      cases e
      obtain ⟨as, r1⟩ := Dp.reads I d x v (a.dp hc.1.1) rx
      obtain ⟨bs, r2⟩ := Dp.reads I _ y u (b.dp (by simpa [PyData.canLay0] using hc.1.2)) ry
      exact SeqAt.in_list_reads r2 r1 hc.1.2 hc.1.1 (by omega) ⟨.bl _, H, I, rfl, q _ _ (Res.same (.bl _))⟩
    · cases e
  · unfold inAll? at e
    split at e
    · rename_i ys hc
      simp only [Bool.and_eq_true, decide_eq_true_eq] at hc
      cases e
      obtain ⟨as, r1⟩ := Dp.reads I d x v (a.dp hc.1.1) rx
      obtain ⟨bs, r2⟩ := Dp.reads I _ y u (b.dp (by simpa [PyData.canLay0] using hc.1.2)) ry
      exact SeqAt.in_tuple_reads r2 r1 hc.1.2 hc.1.1 (by omega) ⟨.bl _, H, I, rfl, q _ _ (Res.same (.bl _))⟩
    · cases e
  · cases e
theorem opn_notIn (hu : X.A.units + 65 < cLine) : OpN X (compareOp .NotIn) (gB2 fun d e => (in? d e).map (!·)) := by
  intro pins s σ H x y v u Q I rx ry h
  obtain ⟨ds, sv, po, e, q⟩ := h
  obtain ⟨d, e', rfl, a, b⟩ := two_opn po
  have e : ((in? d e').map (!·)).map (fun b => SV.dat (.bool b)) = some sv := e
  unfold in? at e
  split at e
  · split at e
    · cases e
      cases a.str; cases b.str
      exact L2.op_notIn_str pins s σ H _ _ v u Q I rx ry ⟨_, _, rfl, rfl, q _ _ (Res.same (.bl _))⟩
    · cases e
  · unfold inAll? at e
    split at e
    · rename_i ys hc
      simp only [Bool.and_eq_true, decide_eq_true_eq] at hc
      cases e
      obtain ⟨as, r1⟩ := Dp.reads I d x v (a.dp hc.1.1) rx
      obtain ⟨bs, r2⟩ := Dp.reads I _ y u (b.dp (by simpa [PyData.canLay0] using hc.1.2)) ry
      exact SeqAt.notIn_list_reads r2 r1 hc.1.2 hc.1.1 (by omega) ⟨.bl _, H, I, rfl, q _ _ (Res.same (.bl _))⟩
    · cases e
  · unfold inAll? at e
    split at e
    · rename_i ys hc
      simp only [Bool.and_eq_true, decide_eq_true_eq] at hc
      cases e
      obtain ⟨as, r1⟩ := Dp.reads I d x v (a.dp hc.1.1) rx
      obtain ⟨bs, r2⟩ := Dp.reads I _ y u (b.dp (by simpa [PyData.canLay0] using hc.1.2)) ry
      exact SeqAt.notIn_tuple_reads r2 r1 hc.1.2 hc.1.1 (by omega) ⟨.bl _, H, I, rfl, q _ _ (Res.same (.bl _))⟩
    · cases e
  · cases e
theorem opn_is : OpN X (compareOp .Is) (gB2 is?) := by
  intro pins s σ H x y v u Q I rx ry h
  obtain ⟨ds, sv, po, e, q⟩ := h
  obtain ⟨d, e', rfl, a, b⟩ := two_opn po
  have e : (is? d e').map (fun b => SV.dat (.bool b)) = some sv := e
  unfold is? at e
  split at e
  · cases e
    cases a.bool; cases b.bool
    exact op_is_bl pins s σ H _ _ v u Q I rx ry ⟨_, _, rfl, rfl, q _ _ (Res.same (.bl _))⟩
  · cases e
    cases b.none
    refine op_isN pins s σ H _ _ v u Q I rx ry ⟨rfl, ?_⟩
    rw [a.nn]
    exact q _ _ (Res.same (.bl _))
  · cases e
theorem opn_isNot : OpN X (compareOp .IsNot) (gB2 fun d e => (is? d e).map (!·)) := by
  intro pins s σ H x y v u Q I rx ry h
  obtain ⟨ds, sv, po, e, q⟩ := h
  obtain ⟨d, e', rfl, a, b⟩ := two_opn po
  have e : ((is? d e').map (!·)).map (fun b => SV.dat (.bool b)) = some sv := e
  unfold is? at e
  split at e
  · cases e
    cases a.bool; cases b.bool
    exact op_isnot_bl pins s σ H _ _ v u Q I rx ry ⟨_, _, rfl, rfl, q _ _ (Res.same (.bl _))⟩
  · cases e
    cases b.none
    refine op_notN pins s σ H _ _ v u Q I rx ry ⟨rfl, ?_⟩
    rw [a.nn]
    exact q _ _ (Res.same (.bl _))
  · cases e
theorem opn_ord {op : CmpOp} (fi : Int → Int → Bool) (fs : Str → Str → Bool) (hi : OpR X (compareOp op) (rI0 fun i j => .bl (fi i j))) (hs : OpR X (compareOp op) (fun x y H Q => ∃ i j, x = .str i ∧ y = .str j ∧ Q (.bl (fs i j)) H)) :
    OpN X (compareOp op) (gB2 fun d e => match d, e with | .int i, .int j => some (fi i j) | .str x, .str y => some (fs x y) | _, _ => none) := by
  intro pins s σ H x y v u Q I rx ry h
  obtain ⟨ds, sv, po, e, q⟩ := h
  obtain ⟨d, e', rfl, a, b⟩ := two_opn po
  have e : (match d, e' with | .int i, .int j => some (fi i j) | .str x, .str y => some (fs x y) | _, _ => none).map (fun b => SV.dat (.bool b)) = some sv := e
  split at e
  · cases e
    cases a.int; cases b.int
    exact hi pins s σ H _ _ v u Q I rx ry ⟨_, _, rfl, rfl, q _ _ (Res.same (.bl _))⟩
  · cases e
    cases a.str; cases b.str
    exact hs pins s σ H _ _ v u Q I rx ry ⟨_, _, rfl, rfl, q _ _ (Res.same (.bl _))⟩
  · cases e
theorem opn_cmp (hu : X.A.units + 65 < cLine) : ∀ op : CmpOp, OpN X (compareOp op) (gB2 (gCmp op))
  | .Eq => opn_eq hu
  | .NotEq => opn_ne hu
  | .Lt => opn_ord _ _ op_lt op_lt_str
  | .LtE => opn_ord _ _ op_le op_le_str
  | .Gt => opn_ord _ _ op_gt op_gt_str
  | .GtE => opn_ord _ _ op_ge op_ge_str
  | .Is => opn_is
  | .IsNot => opn_isNot
  | .In => opn_in hu
  | .NotIn => opn_notIn hu
theorem opn_bin : ∀ op : Operator, OpN X (binaryOp op) (g2 (gBin op))
  | .Add => opn_add
  | .Sub => opn_sub
  | .Mult => opn_mul
  | .FloorDiv => opn_div
  | .Mod => opn_mod
  | .LShift => opn_shl
  | .RShift => opn_shr
  | .Pow => opn_pow
  | .MatMult | .Div | .BitOr | .BitXor | .BitAnd => by
    intro pins s σ H x y v u Q I rx ry h
    obtain ⟨ds, sv, po, e, q⟩ := h
    obtain ⟨d, e', rfl, a, b⟩ := two_opn po
    cases e
/-- an item -/
theorem ixn : IxR X fun x y H Q => rN X.K (g2 gIdx) [x, y] H Q := by
  intro value slice pins s σ H x y v u Q I rx ry h hs
  obtain ⟨ds, sv, po, e, q⟩ := h
  obtain ⟨d, e', rfl, a, b⟩ := two_opn po
  have e : gIdx d e' = some sv := e
  unfold gIdx at e
  split at e
  · cases b.int
    obtain ⟨a1, vs, rfl, h1, t1⟩ := a.list
    cases e1 : atI _ _ with
    | none => rw [e1] at e; cases e
    | some z =>
      rw [e1] at e
      cases e
      unfold atI at e1
      cases e2 : ixN _ _ with
      | none => rw [e2] at e1; cases e1
      | some j =>
        rw [e2] at e1
        obtain ⟨w, f1, f2⟩ := t1.get e1
        refine ix_list value slice pins s σ H _ _ v u Q I rx ry ⟨a1, vs, _, w, rfl, rfl, .inl h1, ?_, q _ _ (Res.same f2)⟩ hs
        unfold atI
        rw [t1.length, e2]
        exact f1
  · cases b.int
    obtain ⟨a1, vs, rfl, h1, t1⟩ := a.tuple
    cases e1 : atI _ _ with
    | none => rw [e1] at e; cases e
    | some z =>
      rw [e1] at e
      cases e
      unfold atI at e1
      cases e2 : ixN _ _ with
      | none => rw [e2] at e1; cases e1
      | some j =>
        rw [e2] at e1
        obtain ⟨w, f1, f2⟩ := t1.get e1
        refine ix_tup value slice pins s σ H _ _ v u Q I rx ry ⟨a1, vs, _, w, rfl, rfl, h1, ?_, q _ _ (Res.same f2)⟩ hs
        unfold atI
        rw [t1.length, e2]
        exact f1
  · split at e
    · rename_i hz
      cases b.int
      cases a.str
      cases e1 : atI _ _ with
      | none => rw [e1] at e; cases e
      | some z =>
        rw [e1] at e
        cases e
        exact ix_str value slice pins s σ H _ _ v u Q I rx ry ⟨_, _, _, rfl, rfl, hz, e1, q _ _ (Res.same (.str _))⟩ hs
    · cases e
  · cases e
theorem isall_cut {K : PySem.W.Frag} {H : Hp} {vs : List V} {ds : List PyData} (h : IsAll K H vs ds) (lo hi : Option Int) : IsAll K H (cutV vs lo hi) (cutD ds lo hi) := by
  unfold cutV cutD
  rw [h.length]
  exact (h.drop _).take _
theorem cut_all {α : Type} (xs : List α) (lo hi : Option Int) (h : HT.sIx xs.length 0 lo = 0 ∧ HT.sIx xs.length xs.length hi = xs.length) : cutD xs lo hi = xs := by
  unfold cutD
  rw [h.1, h.2]
  simp
/-- a slice's reading, by data -/
def rCutD (K : PySem.W.Frag) : V → Option Int → Option Int → Hp → VK → Prop := fun x lo hi H Q => ∃ d s, Opn K H x d ∧ (match d with
    | .list xs => s = SV.lst (cutD xs lo hi)
    | .tuple xs => s = .dat (.tuple (cutD xs lo hi))
    | .str z => z.length ≤ sizeLine ∧ s = .dat (.str (cutS z lo hi))
    | _ => False) ∧ ∀ v H', Res K H v s H' → Q v H'
theorem sln : SlR X (rCutD X.K) := by
  intro pins s σ H x v vl vu lo hi sl Q I rx hs pl pu h
  obtain ⟨d, sv, a, e, q⟩ := h
  cases d with
  | list xs =>
    have e : sv = SV.lst (cutD xs lo hi) := e
    subst e
    obtain ⟨a1, vs, rfl, h1, t1⟩ := a.list
    exact sl_list pins s σ H _ v vl vu lo hi sl Q I rx hs pl pu ⟨a1, vs, rfl, .inl h1, fun p hp => q _ _ (Res.lst hp (isall_cut t1 lo hi))⟩
  | tuple xs =>
    have e : sv = .dat (.tuple (cutD xs lo hi)) := e
    subst e
    obtain ⟨a1, vs, rfl, h1, t1⟩ := a.tuple
    refine sl_tupA pins s σ H _ v vl vu lo hi sl Q I rx hs pl pu ⟨a1, vs, rfl, h1, fun z => ?_, fun z p hp => q _ _ (Res.tup hp (isall_cut t1 lo hi))⟩
    rw [t1.length] at z
    rw [cut_all xs lo hi z] at q
    exact q _ _ (Res.same (.tup h1 t1))
  | str z =>
    have e : z.length ≤ sizeLine ∧ sv = .dat (.str (cutS z lo hi)) := e
    obtain ⟨hz, rfl⟩ := e
    cases a.str
    exact sl_str pins s σ H _ v vl vu lo hi sl Q I rx hs pl pu ⟨z, rfl, hz, q _ _ (Res.same (.str _))⟩
  | none => exact False.elim e
  | bool _ => exact False.elim e
  | int _ => exact False.elim e
  | dict _ => exact False.elim e
end
end Ev

/-! D6: expressions. -/
namespace Ev
open PySem L2

/-! ### things become nobody's on the way -/
inductive Gh (Q : Hp → Prop) : Hp → Prop
  | done {H : Hp} : Q H → Gh Q H
  | frz {H : Hp} {a : Addr} {u : HO} : H a = some u → Mut (some u) → (∀ od, Gh Q (upd H a (.frz od u))) → Gh Q H
theorem Inv.gh {X : Cx} {pins : List (Addr × Obj)} {σ : St} {H : Hp} {s : Shared} {Q : Hp → Prop} (g : Gh Q H) (I : Inv X pins σ H s) : ∃ H', Inv X pins σ H' s ∧ Q H' := by
  induction g with
  | done q => exact ⟨_, I, q⟩
  | frz h m _ ih =>
    obtain ⟨od, I1⟩ := I.lock h m
    exact ih od I1
theorem Gh.mono {Q Q' : Hp → Prop} {H : Hp} (g : Gh Q H) (f : ∀ H', Q H' → Q' H') : Gh Q' H := by
  induction g with
  | done q => exact .done (f _ q)
  | frz h m _ ih => exact .frz h m ih
theorem Gh.bind {Q Q' : Hp → Prop} {H : Hp} (g : Gh Q H) (f : ∀ H', Q H' → Gh Q' H') : Gh Q' H := by
  induction g with
  | done q => exact f _ q
  | frz h m _ ih => exact .frz h m ih
end Ev
namespace L2
open PySem Ev
theorem PE.gh {X : Cx} {e : Expr} {t : TE} (h : PE X e t) : PE X e (fun σ H Q => t σ H fun v H' => Gh (Q v) H') := ⟨fun pins s σ H Q I q =>
  thn (h.run pins s σ H _ I q) fun u s1 ⟨v, H1, I1, r, g⟩ => let ⟨H2, I2, q2⟩ := Ev.Inv.gh g I1; ⟨v, H2, I2, r, q2⟩⟩
theorem PA.gh {X : Cx} {es : List Expr} {t : TA} (h : PA X es t) : PA X es (fun σ H Q => t σ H fun v H' => Gh (Q v) H') := ⟨fun pos pins s σ H Q I q =>
  thn (h.run pos pins s σ H _ I q) fun u s1 ⟨v, H1, I1, r, g⟩ => let ⟨H2, I2, q2⟩ := Ev.Inv.gh g I1; ⟨v, H2, I2, r, q2⟩⟩
end L2
namespace Ev
open PySem L2
section
variable {K : PySem.W.Frag} {H0 H H' : Hp} {O0 : List Addr} {σ : St} {δ δ' : DS} {T T' : List (V × SV)} {v : V} {s : SV} {d : PyData} {W : WX}
theorem Ent.dic_mem {a : Addr} {z : List (PyData × PyData)} {o : List Addr} (c : Ent K H (V.ref a, .dic z) o) : a ∈ o := by
  generalize hz : SV.dic z = w at c
  generalize hv : V.ref a = x at c
  cases c with
  | dic _ _ => cases hv; exact List.mem_cons_self
  | _ => cases hz
theorem kp_frz {a : Addr} {od : Obj} {u : HO} : Kp [a] H (upd H a (.frz od u)) := Kp.at (by simp)
/-- a thing held in front becomes nobody's -/
theorem Ste.freeze (h : Ste K H0 O0 σ H δ ((v, s) :: T)) (e : s.data = some d) {Q : Hp → Prop} (q : ∀ H', Stays H H' → Ste K H0 O0 σ H' δ ((v, .dat d) :: T) → IsD K H' v d → Q H') : Gh Q H := by
  obtain ⟨o, en⟩ := h.ent (e := (v, s)) (by simp)
  cases en with
  | dat i => cases e; exact .done (q H (Stays.refl _) h i)
  | @lst a vs ds h1 t1 =>
    cases e
    refine .frz h1 True.intro fun od => .done (q _ ?_ ?_ ?_)
    · exact (kp_frz (a := a)).stays fun b hb => by simp at hb; subst hb; exact ⟨_, h1, by simp, by simp, by simp⟩
    · refine Ste.step (Tc := [(V.ref a, .lst ds)]) (Tn := [(V.ref a, .dat (.list ds))]) h fun oc hc _ => ?_
      cases hc with
      | cons c n =>
        cases n
        cases c with
        | lst h2 t2 =>
          rw [h1] at h2; cases h2
          refine ⟨[], .cons (.dat (.lst ⟨od, upd_same⟩ (t2.stays ?_))) .nil, List.nodup_nil, fun b hb => by simp at hb, by simpa using kp_frz⟩
          exact (kp_frz (a := a)).stays fun b hb => by simp at hb; subst hb; exact ⟨_, h1, by simp, by simp, by simp⟩
    · exact .lst ⟨od, upd_same⟩ (t1.stays ((kp_frz (a := a)).stays fun b hb => by simp at hb; subst hb; exact ⟨_, h1, by simp, by simp, by simp⟩))
  | @dic a kvs ds h1 t1 =>
    cases e
    refine .frz h1 True.intro fun od => .done (q _ ?_ ?_ ?_)
    · exact (kp_frz (a := a)).stays fun b hb => by simp at hb; subst hb; exact ⟨_, h1, by simp, by simp, by simp⟩
    · refine Ste.step (Tc := [(V.ref a, .dic _)]) (Tn := [(V.ref a, .dat (.dict _))]) h fun oc hc nd => ?_
      cases hc with
      | cons c n =>
        cases n
        refine ⟨[], .cons (.dat (.dic (o := od) upd_same (t1.stays ?_))) .nil, List.nodup_nil, fun b hb => by simp at hb, ?_⟩
        · exact (kp_frz (a := a)).stays fun b hb => by simp at hb; subst hb; exact ⟨_, h1, by simp, by simp, by simp⟩
        · exact Kp.mono kp_frz fun b hb => by simp at hb; subst hb; simpa using c.dic_mem
    · exact .dic (o := od) upd_same (t1.stays ((kp_frz (a := a)).stays fun b hb => by simp at hb; subst hb; exact ⟨_, h1, by simp, by simp, by simp⟩))
  | src _ _ => cases e
  | obj _ _ _ _ => cases e
  | scr _ => cases e
/-- the same of a thing in a slot -/
theorem Ste.freezeAt {i : Nat} (h : Ste K H0 O0 σ H δ T) (hi : at? δ i = some s) (hv : σ[i]? = some (some v)) (e : s.data = some d) {Q : Hp → Prop}
    (q : ∀ H', Stays H H' → Ste K H0 O0 σ H' (δ.set i (some (.dat d))) T → IsD K H' v d → Q H') : Gh Q H := by
  obtain ⟨L, a, R⟩ := h
  obtain ⟨v', L1, L2, rfl, ev, f, g⟩ := a.get hi
  have q' : v' = v := by rw [hv] at ev; cases ev; rfl
  subst q'
  have h1 : Ste K H0 O0 σ H (δ.set i none) ((v', s) :: T) := ⟨L1 ++ L2, g, R.perm (by
    have p : (L1 ++ (v', s) :: L2 ++ T).Perm ((v', s) :: (L1 ++ L2 ++ T)) := by
      rw [List.append_assoc, List.append_assoc]
      exact List.perm_middle
    have p2 : (L1 ++ L2 ++ (v', s) :: T).Perm ((v', s) :: (L1 ++ L2 ++ T)) := List.perm_middle
    exact p.trans p2.symm)⟩
  refine h1.freeze e fun H' st h2 i2 => q H' st ?_ i2
  obtain ⟨L', a', R'⟩ := h2
  have hn : at? (δ.set i none) i = none := at?_set_same (at?_lt hi)
  obtain ⟨M1, M2, rfl, b⟩ := a'.fill (.dat d) hv hn
  rw [List.set_set] at b
  refine ⟨_, b, R'.perm ?_⟩
  have p : (M1 ++ (v', SV.dat d) :: M2 ++ T).Perm ((v', SV.dat d) :: (M1 ++ M2 ++ T)) := by
    rw [List.append_assoc, List.append_assoc]
    exact List.perm_middle
  exact (List.perm_middle).trans p.symm
theorem take_gh {o : Opd} (ov : OpdV σ v o) (h : Ste K H0 O0 σ H δ (tmp v o ++ T)) {s' : SV} (e : take o δ = .ok s' δ') {Q : Hp → Prop} (q : ∀ H', Stays H H' → Ste K H0 O0 σ H' δ' ((v, s') :: T) → Q H') : Gh Q H := by
  cases o with
  | val s =>
    have e : R.ok s δ = R.ok s' δ' := e
    cases e
    exact .done (q H (Stays.refl _) h)
  | slot i =>
    unfold take at e
    cases e1 : at? δ i with
    | none => simp only [e1, Option.bind_none] at e; cases e
    | some s0 =>
      cases e2 : s0.data with
      | none => simp only [e1, Option.bind_some, e2] at e; cases e
      | some d =>
        simp only [e1, Option.bind_some, e2] at e
        cases e
        exact Ste.freezeAt (T := T) h e1 ov e2 fun H' st h1 i1 => q H' st (h1.res (Res.same i1))
theorem takeD_gh {o : Opd} (ov : OpdV σ v o) (h : Ste K H0 O0 σ H δ (tmp v o ++ T)) (e : takeD o δ = .ok d δ') {Q : Hp → Prop} (q : ∀ H', Stays H H' → Ste K H0 O0 σ H' δ' T → IsD K H' v d → Q H') : Gh Q H := by
  unfold takeD bnd at e
  cases e1 : take o δ with
  | bad => simp only [e1] at e; cases e
  | exn x δ1 => simp only [e1] at e; cases e
  | ok s1 δ1 =>
    simp only [e1] at e
    refine (take_gh (Q := fun H' => Stays H H' ∧ Ste K H0 O0 σ H' δ1 ((v, s1) :: T)) ov h e1 fun H' st h1 => ⟨st, h1⟩).bind fun H1 ⟨st, h1⟩ => ?_
    cases e2 : s1.data with
    | none => simp only [e2] at e; cases e
    | some d1 =>
      simp only [e2] at e
      cases e
      exact h1.freeze e2 fun H' st' h2 i2 => q H' (st.trans st') h2.drop1 i2
theorem takes_gh : ∀ {os : List Opd} {vs : List V} {T : List (V × SV)} {δ δ' : DS} {H : Hp} {ds : List PyData}, OpdVs σ vs os → Ste K H0 O0 σ H δ (tmps vs os ++ T) → takes os δ = .ok ds δ' → ∀ {Q : Hp → Prop},
    (∀ H', Stays H H' → Ste K H0 O0 σ H' δ' T → IsAll K H' vs ds → Q H') → Gh Q H
  | [], _, _, _, _, H, _, .nil, h, e, Q, q => by cases e; exact .done (q H (Stays.refl _) h .nil)
  | o :: os, v :: vs, T, δ, δ', H, ds, .cons ov ovs, h, e, Q, q => by
    unfold takes bnd at e
    cases e1 : takeD o δ with
    | bad => simp only [e1] at e; cases e
    | exn x δ1 => simp only [e1] at e; cases e
    | ok d δ1 =>
      simp only [e1] at e
      cases e2 : takes os δ1 with
      | bad => simp only [e2] at e; cases e
      | exn x δ2 => simp only [e2] at e; cases e
      | ok ds' δ2 =>
        simp only [e2, ret] at e
        cases e
        have h' : Ste K H0 O0 σ H δ (tmp v o ++ (tmps vs os ++ T)) := h.perm (by
          show (tmps vs os ++ tmp v o ++ T).Perm _
          rw [← List.append_assoc]
          exact List.perm_append_comm.append_right _)
        refine (takeD_gh (Q := fun H' => Stays H H' ∧ Ste K H0 O0 σ H' δ1 (tmps vs os ++ T) ∧ IsD K H' v d) ov h' e1 fun H' st h1 i1 => ⟨st, h1, i1⟩).bind fun H1 ⟨st, h1, i1⟩ => ?_
        exact takes_gh ovs h1 e2 fun H' st' h2 i2 => q H' (st.trans st') h2 (.cons (i1.stays st') i2)
end

section
variable {X : Cx} {W : WX} {pos : Pos} {K : PySem.W.Frag}
/-! ### the readings one behind another -/
theorem tA_nil {σ : St} {H : Hp} {Q : List V → Hp → Prop} (h : tA K W (ret []) σ H Q) : Q [] H := by
  obtain ⟨H0, O0, T, δ, st, hm⟩ := h
  exact hm [] H .nil st
theorem tA_cons {m : M Opd} {ms : M (List Opd)} {σ : St} {H : Hp} {Q : List V → Hp → Prop} (h : tA K W (bnd m fun o => bnd ms fun os => ret (o :: os)) σ H Q) :
    tE K W m σ H fun v H1 => tA K W ms σ H1 fun vs H2 => Q (v :: vs) H2 := by
  obtain ⟨H0, O0, T, δ, st, hm⟩ := h
  refine ⟨H0, O0, T, δ, st, ?_⟩
  unfold bnd at hm
  cases e1 : m δ with
  | bad => simp only [e1] at hm
  | exn x δ1 => simp only [e1] at hm; exact hm
  | ok o δ1 =>
    simp only [e1] at hm
    intro v H1 ov st1
    refine ⟨H0, O0, tmp v o ++ T, δ1, st1, ?_⟩
    cases e2 : ms δ1 with
    | bad => simp only [e2] at hm
    | exn x δ2 => simp only [e2] at hm; exact fun cls d H' a b => hm cls d H' a b.drop
    | ok os δ2 =>
      simp only [e2, ret] at hm
      intro vs H2 ovs st2
      exact hm (v :: vs) H2 (.cons ov ovs) (by simpa [tmps] using st2)
theorem tE_mono {m : M Opd} {σ : St} {H : Hp} {Q Q' : VK} (h : tE K W m σ H Q) (f : ∀ v H', Q v H' → Q' v H') : tE K W m σ H Q' := by
  obtain ⟨H0, O0, T, δ, st, hm⟩ := h
  refine ⟨H0, O0, T, δ, st, ?_⟩
  cases e1 : m δ with
  | bad => simp only [e1] at hm
  | exn x δ1 => simp only [e1] at hm ⊢; exact hm
  | ok o δ1 => simp only [e1] at hm ⊢; exact fun v H' a b => f _ _ (hm v H' a b)
theorem tA_mono {m : M (List Opd)} {σ : St} {H : Hp} {Q Q' : List V → Hp → Prop} (h : tA K W m σ H Q) (f : ∀ v H', Q v H' → Q' v H') : tA K W m σ H Q' := by
  obtain ⟨H0, O0, T, δ, st, hm⟩ := h
  refine ⟨H0, O0, T, δ, st, ?_⟩
  cases e1 : m δ with
  | bad => simp only [e1] at hm
  | exn x δ1 => simp only [e1] at hm ⊢; exact hm
  | ok o δ1 => simp only [e1] at hm ⊢; exact fun v H' a b => f _ _ (hm v H' a b)
theorem one_t {f : List PyData → Option SV} {a : M Opd} {σ : St} {H : Hp} {Q : VK} (h : tE K W (eOp f [a]) σ H Q) : tE K W a σ H fun x H1 => rN K f [x] H1 Q :=
  tE_mono (tA_cons (eOp_t h)) fun _ _ q => tA_nil q
theorem two_t {f : List PyData → Option SV} {a b : M Opd} {σ : St} {H : Hp} {Q : VK} (h : tE K W (eOp f [a, b]) σ H Q) : tE K W a σ H fun x H1 => tE K W b σ H1 fun y H2 => rN K f [x, y] H2 Q :=
  tE_mono (tA_cons (eOp_t h)) fun _ _ q => tE_mono (tA_cons q) fun _ _ q => tA_nil q
theorem three_t {f : List PyData → Option SV} {a b c : M Opd} {σ : St} {H : Hp} {Q : VK} (h : tE K W (eOp f [a, b, c]) σ H Q) : tE K W a σ H fun x H1 => tE K W b σ H1 fun y H2 => tE K W c σ H2 fun z H3 => rN K f [x, y, z] H3 Q :=
  tE_mono (tA_cons (eOp_t h)) fun _ _ q => tE_mono (tA_cons q) fun _ _ q => tE_mono (tA_cons q) fun _ _ q => tA_nil q
theorem se_bin {op : Operator} {a b : Expr} {ma mb : M Opd} (ha : SE X W a ma) (hb : SE X W b mb) : SE X W (.BinOp a op b pos) (eOp (g2 (gBin op)) [ma, mb]) := (pe_op (opn_bin op) ha hb).imp fun _ _ _ h => two_t h
theorem not_set {op : CmpOp} {b : Expr} (h : (match b with | .Set _ _ _ => false | _ => true) = true) : behindInMarks op b = false := by
  cases b <;> first | rfl | cases h
theorem se_cmp (hu : X.A.units + 65 < cLine) {op : CmpOp} {a b : Expr} {ma mb : M Opd} (hs : (match b with | .Set _ _ _ => false | _ => true) = true) (ha : SE X W a ma) (hb : SE X W b mb) : SE X W (.Compare a [op] [b] pos) (eOp (gB2 (gCmp op)) [ma, mb]) :=
  (pe_cmpR (opn_cmp hu op) ha hb (not_set hs)).imp fun _ _ _ h => two_t h
theorem se_idx {a b : Expr} {ma mb : M Opd} (hs : (match b with | .Slice _ _ _ _ => false | _ => true) = true) (ha : SE X W a ma) (hb : SE X W b mb) : SE X W (.Subscript a b pos) (eOp (g2 gIdx) [ma, mb]) :=
  (pe_ix ixn ha hb (by intro o i; cases b <;> first | rfl | cases hs)).imp fun _ _ _ h => two_t h
theorem se_neg {a : Expr} {ma : M Opd} (ha : SE X W a ma) : SE X W (.UnaryOp .USub a pos) (eOp (g1 (gUn .USub)) [ma]) :=
  (pe_un un_neg ha).imp fun _ _ _ h => tE_mono (one_t h) fun x H1 q => by
    obtain ⟨ds, sv, po, e, q⟩ := q
    obtain ⟨d, rfl, a⟩ := one_opn po
    have e : gUn .USub d = some sv := e
    unfold gUn at e
    split at e
    · cases e
      cases a.int
      exact ⟨_, rfl, q _ _ (Res.same (.int _))⟩
    · cases e
/-! ### slices -/
def tO (K : PySem.W.Frag) (W : WX) (m : M (Option Int)) : TO := fun σ H Q => ∃ H0 O0 T δ, Ste K H0 O0 σ H δ T ∧ match m δ with
  | .ok o δ' => ∀ H', Ste K H0 O0 σ H' δ' T → Q o H'
  | .exn x δ' => ∀ cls d H', ExnOk K H' x cls d → Ste K H0 O0 σ H' δ' T → W cls d σ H'
  | .bad => False
theorem po_imp {e : Option Expr} {t t' : TO} (h : PO X e t) (f : ∀ σ H Q, t' σ H Q → t σ H Q) : PO X e t' := ⟨fun pins s σ H Q I q => h.run pins s σ H Q I (f σ H Q q)⟩
theorem so_none : PO X none (tO X.K W (partM none)) := po_imp po_none fun σ H Q h => by
  obtain ⟨H0, O0, T, δ, st, hm⟩ := h
  exact hm H st
theorem so_some {e : Expr} {m : M Opd} (h : SE X W e m) : PO X (some e) (tO X.K W (partM (some m))) := po_imp (po_some h) fun σ H Q h => by
  obtain ⟨H0, O0, T, δ, st, hm⟩ := h
  refine ⟨H0, O0, T, δ, st, ?_⟩
  unfold partM intO bnd at hm
  cases e1 : m δ with
  | bad => simp only [e1] at hm
  | exn x δ1 => simp only [e1] at hm; exact hm
  | ok o δ1 =>
    simp only [e1] at hm
    intro v H1 ov st1
    cases e2 : o.data δ1 with
    | none => simp only [e2] at hm
    | some d =>
      have po := datas_opn (os := [o]) (vs := [v]) (ds := [d]) (T := T) (.cons ov .nil) (by simpa [tmps] using st1) (by unfold datas; rw [e2]; rfl)
      obtain ⟨d', ed, a⟩ := one_opn po
      cases ed
      cases d with
      | int i =>
        simp only [e2, ret] at hm
        exact ⟨i, a.int, hm H1 st1.drop⟩
      | _ => simp only [e2] at hm
theorem se_cut {a : Expr} {lo hi : Option Expr} {ma : M Opd} {ml mh : Option (M Opd)} {p2 : Pos} (ha : SE X W a ma) (hl : PO X lo (tO X.K W (partM ml))) (hh : PO X hi (tO X.K W (partM mh))) :
    SE X W (.Subscript a (.Slice lo hi none p2) pos) (eCut ma ml mh) := (pe_slice sln ha hl hh).imp fun σ H Q h => by
  obtain ⟨H0, O0, T, δ, st, hm⟩ := h
  refine ⟨H0, O0, T, δ, st, ?_⟩
  unfold eCut bnd at hm
  cases e1 : ma δ with
  | bad => simp only [e1] at hm
  | exn x δ1 => simp only [e1] at hm; exact hm
  | ok o δ1 =>
    simp only [e1] at hm
    intro v H1 ov st1
    refine ⟨H0, O0, tmp v o ++ T, δ1, st1, ?_⟩
    cases e2 : partM ml δ1 with
    | bad => simp only [e2] at hm
    | exn x δ2 => simp only [e2] at hm; exact fun cls d H' a b => hm cls d H' a b.drop
    | ok l δ2 =>
      simp only [e2] at hm
      intro H2 st2
      refine ⟨H0, O0, tmp v o ++ T, δ2, st2, ?_⟩
      cases e3 : partM mh δ2 with
      | bad => simp only [e3] at hm
      | exn x δ3 => simp only [e3] at hm; exact fun cls d H' a b => hm cls d H' a b.drop
      | ok h δ3 =>
        simp only [e3] at hm
        intro H3 st3
        unfold opN at hm
        cases e4 : datas δ3 [o] with
        | none => simp only [e4] at hm
        | some ds =>
          simp only [e4] at hm
          have po := datas_opn (os := [o]) (vs := [v]) (ds := ds) (T := T) (.cons ov .nil) (by simpa [tmps] using st3) e4
          obtain ⟨d, rfl, a⟩ := one_opn po
          have fin : ∀ s, gCut l h d = some s → rCutD X.K v l h H3 Q := fun s es => by
            have hm' : ∀ v H', OpdV σ v (.val s) → Ste X.K H0 O0 σ H' δ3 (tmp v (.val s) ++ T) → Q v H' := by
              have es' : g1 (gCut l h) [d] = some s := es
              simp only [es'] at hm
              exact hm
            refine ⟨d, s, a, ?_, fun v' H' r => hm' v' H' True.intro ?_⟩
            · unfold gCut at es
              cases d with
              | list xs => exact (Option.some.inj es).symm
              | tuple xs => exact (Option.some.inj es).symm
              | str z =>
                by_cases hz : z.length ≤ sizeLine
                · simp only [if_pos hz] at es
                  exact ⟨hz, (Option.some.inj es).symm⟩
                · simp only [if_neg hz] at es
                  cases es
              | _ => cases es
            · exact Ste.perm (Ste.drop (T' := tmp v o) (Ste.perm (st3.res r) (by
                have p := (List.perm_append_comm (l₁ := [(v', s)]) (l₂ := tmp v o)).append_right T
                rw [List.append_assoc, List.append_assoc] at p
                exact p))) (List.Perm.refl _)
          cases es : gCut l h d with
          | none =>
            have es' : g1 (gCut l h) [d] = none := es
            simp only [es'] at hm
          | some s => exact fin s es
end
end Ev

/-! D7: displays, tests, and, or, not, if-else, chains; built-in calls by operands. -/
namespace Ev
open PySem L2
section
variable {K : PySem.W.Frag} {H0 H H' : Hp} {O0 : List Addr} {σ : St} {δ δ' : DS} {T T' : List (V × SV)} {v : V} {s : SV} {d : PyData} {W : WX}
theorem tmps_app : ∀ {vs ws : List V} {os ps : List Opd}, vs.length = os.length → tmps (vs ++ ws) (os ++ ps) = tmps ws ps ++ tmps vs os
  | [], ws, [], ps, _ => by simp [tmps]
  | v :: vs, ws, o :: os, ps, h => by
    show tmps (vs ++ ws) (os ++ ps) ++ tmp v o = _
    rw [tmps_app (by simpa using h)]
    simp [tmps]
theorem OpdVs.length {vs : List V} {os : List Opd} (h : OpdVs σ vs os) : vs.length = os.length := by
  induction h with
  | nil => rfl
  | cons _ _ ih => simp [ih]
theorem OpdVs.append {vs ws : List V} {os ps : List Opd} (h : OpdVs σ vs os) (h' : OpdVs σ ws ps) : OpdVs σ (vs ++ ws) (os ++ ps) := by
  induction h with
  | nil => exact h'
  | cons a _ ih => exact .cons a ih
def vals (ds : List PyData) : List Opd := ds.map fun d => .val (.dat d)
theorem opdvs_vals : ∀ {vs : List V} {ds : List PyData}, vs.length = ds.length → OpdVs σ vs (vals ds)
  | [], [], _ => .nil
  | v :: vs, d :: ds, h => .cons True.intro (opdvs_vals (by simpa using h))
theorem Ste.pushAll : ∀ {vs : List V} {ds : List PyData} {T : List (V × SV)}, IsAll K H vs ds → Ste K H0 O0 σ H δ T → Ste K H0 O0 σ H δ (tmps vs (vals ds) ++ T)
  | _, [], T, .nil, h => h
  | v :: vs, d :: ds, T, .cons a t, h => by
    have h1 := h.res (Res.same a)
    have h2 := Ste.pushAll t h1
    show Ste K H0 O0 σ H δ (tmps vs (vals ds) ++ [(v, SV.dat d)] ++ T)
    rw [List.append_assoc]
    exact h2
theorem Opn.seq {ds : List PyData} (h : Opn K H v d) (e : d = .list ds ∨ d = .tuple ds) : ∃ a vs, v = .ref a ∧ (SqT K H a vs ∨ SqL K H a vs) ∧ IsAll K H vs ds := by
  rcases e with rfl | rfl
  · obtain ⟨a, vs, rfl, r, t⟩ := h.list
    exact ⟨a, vs, rfl, .inr (.inl r), t⟩
  · obtain ⟨a, vs, rfl, r, t⟩ := h.tuple
    exact ⟨a, vs, rfl, .inl r, t⟩
/-- the data of one operand that stands -/
theorem opd_opn {o : Opd} (ov : OpdV σ v o) (st : Ste K H0 O0 σ H δ (tmp v o ++ T)) (e : o.data δ = some d) : Opn K H v d := by
  have po := datas_opn (os := [o]) (vs := [v]) (ds := [d]) (T := T) (.cons ov .nil) (by simpa [tmps] using st) (by unfold datas; rw [e]; rfl)
  obtain ⟨d', ed, a⟩ := one_opn po
  cases ed
  exact a
theorem Opn.tru {b : Bool} (h : Opn K H v d) (e : truthy d = some b) : TruV K v H b := by
  have emp : ∀ {vs : List V} {ds : List PyData}, IsAll K H vs ds → (!vs.isEmpty) = !ds.isEmpty := fun t => by cases t <;> rfl
  cases d with
  | none => cases h.none; cases e; exact rfl
  | bool c => cases h.bool; cases e; exact rfl
  | int i => cases h.int; cases e; exact rfl
  | str x =>
    cases h.str
    have e : (if x.length ≤ sizeLine then some ((x.length : Int) != 0) else Option.none) = some b := e
    by_cases hz : x.length ≤ sizeLine
    · rw [if_pos hz] at e; cases e; exact ⟨hz, rfl⟩
    · rw [if_neg hz] at e; cases e
  | list ds =>
    obtain ⟨a, vs, rfl, r, t⟩ := h.list
    cases e
    exact .inl ⟨vs, .inl r, (emp t).symm⟩
  | tuple ds =>
    obtain ⟨a, vs, rfl, r, t⟩ := h.tuple
    cases e
    exact .inr (.inl ⟨vs, r, (emp t).symm⟩)
  | dict _ => cases e
theorem truth_t {o : Opd} {b : Bool} (ov : OpdV σ v o) (st : Ste K H0 O0 σ H δ (tmp v o ++ T)) (e : truth o δ = .ok b δ') : δ' = δ ∧ TruV K v H b := by
  unfold truth at e
  cases e1 : o.data δ with
  | none => simp only [e1, Option.bind_none] at e; cases e
  | some d =>
    simp only [e1, Option.bind_some] at e
    cases e2 : truthy d with
    | none => simp only [e2] at e; cases e
    | some c =>
      simp only [e2] at e
      cases e
      exact ⟨rfl, (opd_opn ov st e1).tru e2⟩
theorem truth_noexn {o : Opd} {x : Exn} : truth o δ ≠ .exn x δ' := by
  unfold truth
  cases (o.data δ).bind truthy <;> simp
end

section
variable {X : Cx} {W : WX} {pos p : Pos}
/-! ### rows with stars -/
theorem saS_nil : SA X W [] (evS []) := sa_nil
theorem saS_cons {e : Expr} {es : List Expr} {m : M Opd} {ms : List (Bool × M Opd)} (hp : plainE e = true) (h : SE X W e m) (hs : SA X W es (evS ms)) : SA X W (e :: es) (evS ((false, m) :: ms)) := sa_cons hp h hs
theorem saS_star {e : Expr} {es : List Expr} {m : M Opd} {ms : List (Bool × M Opd)} (h : SE X W e m) (hs : SA X W es (evS ms)) : SA X W (.Starred e p :: es) (evS ((true, m) :: ms)) :=
  (StX.pa_star h hs).imp fun σ H Q h => by
    obtain ⟨H0, O0, T, δ, st, hm⟩ := h
    refine ⟨H0, O0, T, δ, st, ?_⟩
    unfold evS bnd at hm
    cases e1 : m δ with
    | bad => simp only [e1] at hm
    | exn x δ1 => simp only [e1] at hm; exact hm
    | ok o δ1 =>
      simp only [e1] at hm
      intro v H1 ov st1
      have key : ∀ ds, (o.data δ1 = some (.list ds) ∨ o.data δ1 = some (.tuple ds)) → (match evS ms δ1 with
          | .ok os δ2 => ∀ vs H', OpdVs σ vs (vals ds ++ os) → Ste X.K H0 O0 σ H' δ2 (tmps vs (vals ds ++ os) ++ T) → Q vs H'
          | .exn x δ2 => ∀ cls d H', ExnOk X.K H' x cls d → Ste X.K H0 O0 σ H' δ2 T → W cls d σ H'
          | .bad => False) → ∃ p xs, v = V.ref p ∧ (SqT X.K H1 p xs ∨ SqL X.K H1 p xs) ∧ tA X.K W (evS ms) σ H1 fun ys H2 => Q (xs ++ ys) H2 := fun ds hd hq => by
        obtain ⟨a, xs, rfl, hs, t⟩ : ∃ a vs, v = V.ref a ∧ (SqT X.K H1 a vs ∨ SqL X.K H1 a vs) ∧ IsAll X.K H1 vs ds := by
          rcases hd with hd | hd
          · exact (opd_opn ov st1 hd).seq (.inl rfl)
          · exact (opd_opn ov st1 hd).seq (.inr rfl)
        refine ⟨a, xs, rfl, hs, H0, O0, tmps xs (vals ds) ++ T, δ1, (st1.drop).pushAll t, ?_⟩
        cases e2 : evS ms δ1 with
        | bad => simp only [e2] at hq
        | exn x δ2 => simp only [e2] at hq; exact fun cls d H' a b => hq cls d H' a b.drop
        | ok os δ2 =>
          simp only [e2] at hq
          intro ys H2 ov2 st2
          refine hq (xs ++ ys) H2 ((opdvs_vals t.length).append ov2) ?_
          rw [tmps_app (by unfold vals; rw [List.length_map]; exact t.length), List.append_assoc]
          exact st2
      unfold spread at hm
      cases e2 : o.data δ1 with
      | none => simp only [e2] at hm
      | some d =>
        cases d with
        | list ds =>
          simp only [e2] at hm
          refine key ds (.inl e2) ?_
          cases e3 : evS ms δ1 <;> simp only [e3, ret] at hm ⊢ <;> exact hm
        | tuple ds =>
          simp only [e2] at hm
          refine key ds (.inr e2) ?_
          cases e3 : evS ms δ1 <;> simp only [e3, ret] at hm ⊢ <;> exact hm
        | _ => simp only [e2] at hm
theorem takes_noexn : ∀ {os : List Opd} {δ δ' : DS} {x : Exn}, takes os δ ≠ .exn x δ'
  | [], _, _, _ => by simp [takes, ret]
  | o :: os, δ, δ', x => by
    intro e
    unfold takes bnd at e
    have t1 : ∀ {δ δ' x}, takeD o δ ≠ .exn x δ' := by
      intro δ δ' x e
      unfold takeD bnd at e
      cases o with
      | val s =>
        show False
        simp only [take, ret] at e
        cases h : s.data <;> simp only [h, ret, stuck] at e <;> cases e
      | slot i =>
        simp only [take] at e
        cases h : (at? δ i).bind SV.data <;> simp only [h] at e
        · cases e
        · simp only [SV.data, ret] at e; cases e
    cases e1 : takeD o δ with
    | bad => simp only [e1] at e; cases e
    | exn x1 δ1 => exact t1 e1
    | ok d δ1 =>
      simp only [e1] at e
      cases e2 : takes os δ1 with
      | bad => simp only [e2] at e; cases e
      | exn x2 δ2 => exact takes_noexn e2
      | ok ds δ2 => simp only [e2, ret] at e; cases e
/-- a display: its items are laid down as data first -/
theorem disp_t {ms : List (Bool × M Opd)} {k : List PyData → SV} {K : PySem.W.Frag} {σ : St} {H : Hp} {Q : VK} (h : tE K W (bnd (evS ms) fun os => bnd (takes os) fun ds => if ds.length ≤ sizeLine then ret (.val (k ds)) else stuck) σ H Q)
    {o : List V → HO} (hk : ∀ {H p vs ds}, H p = none → IsAll K H vs ds → Res K H (.ref p) (k ds) (upd H p (o vs))) :
    tA K W (evS ms) σ H fun vs H1 => Gh (fun H2 => vs.length ≤ sizeLine ∧ ∀ p, H2 p = none → Q (.ref p) (upd H2 p (o vs))) H1 := by
  obtain ⟨H0, O0, T, δ, st, hm⟩ := h
  refine ⟨H0, O0, T, δ, st, ?_⟩
  unfold bnd at hm
  cases e1 : evS ms δ with
  | bad => simp only [e1] at hm
  | exn x δ1 => simp only [e1] at hm; exact hm
  | ok os δ1 =>
    simp only [e1] at hm
    intro vs H1 ov st1
    cases e2 : takes os δ1 with
    | bad => simp only [e2] at hm
    | exn x δ2 => exact absurd e2 takes_noexn
    | ok ds δ2 =>
      simp only [e2] at hm
      refine takes_gh ov st1 e2 fun H2 _ st2 i2 => ?_
      by_cases hz : ds.length ≤ sizeLine
      · simp only [if_pos hz, ret] at hm
        exact ⟨by rw [i2.length]; exact hz, fun p hp => hm _ _ True.intro (st2.res (hk hp i2))⟩
      · simp only [if_neg hz, stuck] at hm
theorem se_tup {es : List Expr} {k : Nat} {ms : List (Bool × M Opd)} (h : SA X W es (evS ms)) : SE X W (.Tuple es k pos) (eTup ms) :=
  (pe_tup h.gh).imp fun _ _ _ h => disp_t (k := fun ds => .dat (.tuple ds)) (o := .tup) h fun hp i => Res.tup hp i
theorem se_lst {es : List Expr} {ms : List (Bool × M Opd)} (h : SA X W es (evS ms)) : SE X W (.List es pos) (eLst ms) :=
  (pe_lst h.gh).imp fun _ _ _ h => disp_t (k := fun ds => .lst ds) (o := .lst) h fun hp i => Res.lst hp i

/-! ### tests -/
def plainT : Expr → Bool
  | .UnaryOp .Not _ _ => false
  | .BoolOp _ _ _ => false
  | .IfExp _ _ _ _ => false
  | .Compare _ _ _ _ => false
  | _ => true
theorem isTrue_of {e : Expr} (h : plainT e = true) {env : Env} : ∀ whole, isTrue e env whole = (do let v ← whole; standAt e.pos; holding [v] (PySem.truthy v)) := by
  intro whole
  cases e with
  | UnaryOp op a p => cases op <;> first | rfl | cases h
  | BoolOp _ _ _ => cases h
  | IfExp _ _ _ _ => cases h
  | Compare _ _ _ _ => cases h
  | _ => rfl
theorem tOf_t {K : PySem.W.Frag} {m : M Opd} {σ : St} {H : Hp} {Q : Bool → Hp → Prop} (h : tT K W (tOf m) σ H Q) : tE K W m σ H fun x H' => ∃ k, TruV K x H' k ∧ Q k H' := by
  obtain ⟨H0, O0, T, δ, st, hm⟩ := h
  refine ⟨H0, O0, T, δ, st, ?_⟩
  unfold tOf bnd at hm
  cases e1 : m δ with
  | bad => simp only [e1] at hm
  | exn x δ1 => simp only [e1] at hm; exact hm
  | ok o δ1 =>
    simp only [e1] at hm
    intro v H1 ov st1
    cases e2 : truth o δ1 with
    | bad => simp only [e2] at hm
    | exn x δ2 => exact absurd e2 truth_noexn
    | ok b δ2 =>
      simp only [e2] at hm
      obtain ⟨rfl, t⟩ := truth_t ov st1 e2
      exact ⟨b, t, hm H1 st1.drop⟩
theorem st_of {e : Expr} {m : M Opd} (hp : plainT e = true) (h : SE X W e m) : ST X W e (tOf m) := (pt_truth h (isTrue_of hp)).imp fun _ _ _ h => tOf_t h
/-- gives truth values only -/
def BoolM (m : M Opd) : Prop := ∀ δ o δ', m δ = .ok o δ' → ∃ b, o = .val (.dat (.bool b))
theorem boolM_opN {f : PyData → PyData → Option Bool} {os : List Opd} : BoolM (opN (gB2 f) os) := by
  intro δ o δ' h
  unfold opN at h
  cases e1 : datas δ os with
  | none => simp only [e1] at h; cases h
  | some ds =>
    simp only [e1] at h
    cases e2 : gB2 f ds with
    | none => simp only [e2] at h; cases h
    | some s =>
      simp only [e2] at h
      cases h
      unfold gB2 at e2
      split at e2
      · obtain ⟨b, _, e⟩ := Option.map_eq_some_iff.mp e2
        exact ⟨b, by rw [← e]⟩
      · cases e2
theorem boolM_bnd {α : Type} {m : M α} {f : α → M Opd} (h : ∀ a, BoolM (f a)) : BoolM (bnd m f) := by
  intro δ o δ' e
  unfold bnd at e
  cases e1 : m δ with
  | bad => simp only [e1] at e; cases e
  | exn x δ1 => simp only [e1] at e; cases e
  | ok a δ1 => simp only [e1] at e; exact h a δ1 o δ' e
theorem boolT {K : PySem.W.Frag} {m : M Opd} (hb : BoolM m) {σ : St} {H : Hp} {Q : Bool → Hp → Prop} (h : tT K W (tOf m) σ H Q) : tE K W m σ H fun x H' => ∃ k, x = .bl k ∧ Q k H' := by
  obtain ⟨H0, O0, T, δ, st, hm⟩ := h
  refine ⟨H0, O0, T, δ, st, ?_⟩
  unfold tOf bnd at hm
  cases e1 : m δ with
  | bad => simp only [e1] at hm
  | exn x δ1 => simp only [e1] at hm; exact hm
  | ok o δ1 =>
    simp only [e1] at hm
    intro v H1 ov st1
    obtain ⟨b, rfl⟩ := hb δ o δ1 e1
    have e3 : (Opd.val (.dat (.bool b))).data δ1 = some (.bool b) := rfl
    exact ⟨b, (opd_opn ov st1 e3).bool, hm H1 st1.drop⟩
theorem st_cmp (hu : X.A.units + 65 < cLine) {op : CmpOp} {a b : Expr} {ma mb : M Opd} (hs : (match b with | .Set _ _ _ => false | _ => true) = true) (ha : SE X W a ma) (hb : SE X W b mb) : ST X W (.Compare a [op] [b] pos) (tOf (eOp (gB2 (gCmp op)) [ma, mb])) :=
  (pt_cmpR (opn_cmp hu op) ha hb (not_set hs)).imp fun _ _ _ h => two_t (boolT (boolM_bnd fun _ => boolM_opN) h)
theorem st_not {a : Expr} {m : M Bool} (ha : ST X W a m) : ST X W (.UnaryOp .Not a pos) (tNot m) := (pt_not ha).imp fun σ H Q h => by
  obtain ⟨H0, O0, T, δ, st, hm⟩ := h
  refine ⟨H0, O0, T, δ, st, ?_⟩
  unfold tNot bnd at hm
  cases e1 : m δ with
  | bad => simp only [e1] at hm
  | exn x δ1 => simp only [e1] at hm; exact hm
  | ok b δ1 => simp only [e1, ret] at hm; exact hm
abbrev SW (X : Cx) (W : WX) (e : Expr) (m : M Bool) : Prop := PW X e (tT X.K W m)
theorem sw_and1 {a : Expr} {m : M Bool} (ha : ST X W a m) : SW X W (.BoolOp .And [a] pos) m := pw_and1 ha
theorem sw_or1 {a : Expr} {m : M Bool} (ha : ST X W a m) : SW X W (.BoolOp .Or [a] pos) m := pw_or1 ha
theorem tAnd_t {K : PySem.W.Frag} {a b : M Bool} {σ : St} {H : Hp} {Q : Bool → Hp → Prop} (h : tT K W (tAnd a b) σ H Q) : tT K W a σ H fun c H1 => if c = true then tT K W b σ H1 Q else Q false H1 := by
  obtain ⟨H0, O0, T, δ, st, hm⟩ := h
  refine ⟨H0, O0, T, δ, st, ?_⟩
  unfold tAnd bnd at hm
  cases e1 : a δ with
  | bad => simp only [e1] at hm
  | exn x δ1 => simp only [e1] at hm; exact hm
  | ok c δ1 =>
    simp only [e1] at hm
    intro H1 st1
    cases c with
    | true => exact ⟨H0, O0, T, δ1, st1, hm⟩
    | false => exact hm H1 st1
theorem tOr_t {K : PySem.W.Frag} {a b : M Bool} {σ : St} {H : Hp} {Q : Bool → Hp → Prop} (h : tT K W (tOr a b) σ H Q) : tT K W a σ H fun c H1 => if c = true then Q true H1 else tT K W b σ H1 Q := by
  obtain ⟨H0, O0, T, δ, st, hm⟩ := h
  refine ⟨H0, O0, T, δ, st, ?_⟩
  unfold tOr bnd at hm
  cases e1 : a δ with
  | bad => simp only [e1] at hm
  | exn x δ1 => simp only [e1] at hm; exact hm
  | ok c δ1 =>
    simp only [e1] at hm
    intro H1 st1
    cases c with
    | true => exact hm H1 st1
    | false => exact ⟨H0, O0, T, δ1, st1, hm⟩
theorem sw_and {a b : Expr} {r : List Expr} {ma mb : M Bool} (ha : ST X W a ma) (hb : SW X W (.BoolOp .And (b :: r) pos) mb) : SW X W (.BoolOp .And (a :: b :: r) pos) (tAnd ma mb) := (pw_and ha hb).imp fun _ _ _ h => tAnd_t h
theorem sw_or {a b : Expr} {r : List Expr} {ma mb : M Bool} (ha : ST X W a ma) (hb : SW X W (.BoolOp .Or (b :: r) pos) mb) : SW X W (.BoolOp .Or (a :: b :: r) pos) (tOr ma mb) := (pw_or ha hb).imp fun _ _ _ h => tOr_t h

/-! ### truth as a value, if-else -/
theorem eNotV_t {K : PySem.W.Frag} {m : M Opd} {σ : St} {H : Hp} {Q : VK} (h : tE K W (eNot (tOf m)) σ H Q) : tE K W m σ H fun x H1 => ∃ k, TruV K x H1 k ∧ Q (.bl (!k)) H1 := by
  refine tOf_t (Q := fun k H1 => Q (.bl (!k)) H1) ?_
  obtain ⟨H0, O0, T, δ, st, hm⟩ := h
  refine ⟨H0, O0, T, δ, st, ?_⟩
  unfold eNot at hm
  have hm' : match bnd (tOf m) (fun c => ret (Opd.val (.dat (.bool (!c))))) δ with
    | .ok o δ' => ∀ v H', OpdV σ v o → Ste K H0 O0 σ H' δ' (tmp v o ++ T) → Q v H'
    | .exn x δ' => ∀ cls d H', ExnOk K H' x cls d → Ste K H0 O0 σ H' δ' T → W cls d σ H'
    | .bad => False := hm
  unfold bnd at hm'
  cases e1 : tOf m δ with
  | bad => simp only [e1] at hm'
  | exn x δ1 => simp only [e1] at hm'; exact hm'
  | ok c δ1 =>
    simp only [e1, ret] at hm'
    exact fun H' st' => hm' _ _ True.intro (st'.res (Res.same (.bl _)))
theorem se_not {a : Expr} {m : M Opd} (ha : SE X W a m) : SE X W (.UnaryOp .Not a pos) (eNot (tOf m)) := (pe_notT ha).imp fun _ _ _ h => eNotV_t h
theorem se_one {op : BoolOp} {a : Expr} {m : M Opd} (ha : SE X W a m) : SE X W (.BoolOp op [a] pos) m := pe_one ha
theorem se_and {a b : Expr} {r : List Expr} {ma mb : M Opd} (ha : SE X W a ma) (hb : SE X W (.BoolOp .And (b :: r) pos) mb) : SE X W (.BoolOp .And (a :: b :: r) pos) (eAnd ma mb) := (pe_andT ha hb).imp fun σ H Q h => by
  obtain ⟨H0, O0, T, δ, st, hm⟩ := h
  refine ⟨H0, O0, T, δ, st, ?_⟩
  unfold eAnd bnd at hm
  cases e1 : ma δ with
  | bad => simp only [e1] at hm
  | exn x δ1 => simp only [e1] at hm; exact hm
  | ok o δ1 =>
    simp only [e1] at hm
    intro v H1 ov st1
    cases e2 : truth o δ1 with
    | bad => simp only [e2] at hm
    | exn x δ2 => exact absurd e2 truth_noexn
    | ok c δ2 =>
      simp only [e2] at hm
      obtain ⟨rfl, t⟩ := truth_t ov st1 e2
      refine ⟨c, t, ?_⟩
      cases c with
      | true =>
        refine ⟨H0, O0, T, δ2, st1.drop, ?_⟩
        exact hm
      | false => exact hm v H1 ov st1
theorem se_or {a b : Expr} {r : List Expr} {ma mb : M Opd} (ha : SE X W a ma) (hb : SE X W (.BoolOp .Or (b :: r) pos) mb) : SE X W (.BoolOp .Or (a :: b :: r) pos) (eOr ma mb) := (pe_orT ha hb).imp fun σ H Q h => by
  obtain ⟨H0, O0, T, δ, st, hm⟩ := h
  refine ⟨H0, O0, T, δ, st, ?_⟩
  unfold eOr bnd at hm
  cases e1 : ma δ with
  | bad => simp only [e1] at hm
  | exn x δ1 => simp only [e1] at hm; exact hm
  | ok o δ1 =>
    simp only [e1] at hm
    intro v H1 ov st1
    cases e2 : truth o δ1 with
    | bad => simp only [e2] at hm
    | exn x δ2 => exact absurd e2 truth_noexn
    | ok c δ2 =>
      simp only [e2] at hm
      obtain ⟨rfl, t⟩ := truth_t ov st1 e2
      refine ⟨c, t, ?_⟩
      cases c with
      | true => exact hm v H1 ov st1
      | false =>
        refine ⟨H0, O0, T, δ2, st1.drop, ?_⟩
        exact hm
theorem se_if {c a b : Expr} {mc : M Bool} {ma mb : M Opd} (hc : ST X W c mc) (ha : SE X W a ma) (hb : SE X W b mb) : SE X W (.IfExp c a b pos) (mIf mc ma mb) := (pe_ifExp hc ha hb).imp fun σ H Q h => by
  obtain ⟨H0, O0, T, δ, st, hm⟩ := h
  refine ⟨H0, O0, T, δ, st, ?_⟩
  unfold mIf bnd at hm
  cases e1 : mc δ with
  | bad => simp only [e1] at hm
  | exn x δ1 => simp only [e1] at hm; exact hm
  | ok k δ1 =>
    simp only [e1] at hm
    intro H1 st1
    cases k with
    | true => exact ⟨H0, O0, T, δ1, st1, hm⟩
    | false => exact ⟨H0, O0, T, δ1, st1, hm⟩
end
end Ev

/-! D8: statements. -/
namespace L2
open PySem
theorem PS.imp {X : Cx} {e : Stmt} {t t' : TS} (h : PS X e t) (f : ∀ D σ H, t' D σ H → t D σ H) : PS X e t' := ⟨fun pins s σ H D I q => h.run pins s σ H D I (f D σ H q)⟩
theorem PSs.imp {X : Cx} {e : List Stmt} {t t' : TS} (h : PSs X e t) (f : ∀ D σ H, t' D σ H → t D σ H) : PSs X e t' := ⟨fun pins s σ H D I q => h.run pins s σ H D I (f D σ H q)⟩
theorem PG.imp {X : Cx} {e : Expr} {t t' : TG} (h : PG X e t) (f : ∀ v σ H Q, t' v σ H Q → t v σ H Q) : PG X e t' := ⟨fun pins s σ H v u Q I r q => h.run pins s σ H v u Q I r (f v σ H Q q)⟩
theorem PGs.imp {X : Cx} {e : List Expr} {t t' : TGs} (h : PGs X e t) (f : ∀ v σ H Q, t' v σ H Q → t v σ H Q) : PGs X e t' := ⟨fun pins s σ H v u Q I r q => h.run pins s σ H v u Q I r (f v σ H Q q)⟩
theorem PI.imp {X : Cx} {tg e : Expr} {t t' : TI} (h : PI X tg e t) (f : ∀ σ H R, t' σ H R → t σ H R) : PI X tg e t' := ⟨fun pins s σ H R I q => h.run pins s σ H R I (f σ H R q)⟩
end L2
namespace Ev
open PySem L2

/-- two rows of names that part at the slots `is` alone -/
def Apart (is : List Nat) (σ σ' : St) : Prop := σ'.length = σ.length ∧ ∀ j, j ∉ is → σ'[j]? = σ[j]?
theorem Apart.refl (is : List Nat) (σ : St) : Apart is σ σ := ⟨rfl, fun _ _ => rfl⟩
theorem Apart.trans {is : List Nat} {σ σ1 σ2 : St} (a : Apart is σ σ1) (b : Apart is σ1 σ2) : Apart is σ σ2 := ⟨b.1.trans a.1, fun j h => (b.2 j h).trans (a.2 j h)⟩
theorem Apart.mono {is js : List Nat} {σ σ1 : St} (a : Apart is σ σ1) (h : ∀ i ∈ is, i ∈ js) : Apart js σ σ1 := ⟨a.1, fun j n => a.2 j fun m => n (h j m)⟩
/-- what is wanted behind a statement's run; as: the slots that may be written -/
def Post (K : PySem.W.Frag) (W : WX) (as : List Nat) (σ0 : St) (H0 : Hp) (O0 : List Addr) (T : List (V × SV)) (D : Ends) : R Flw → Prop
  | .ok .nx δ => ∀ σ H, Apart as σ0 σ → Ste K H0 O0 σ H δ T → D.nx σ H
  | .ok .bk δ => ∀ σ H, Apart as σ0 σ → Ste K H0 O0 σ H δ T → D.bk σ H
  | .ok .ct δ => ∀ σ H, Apart as σ0 σ → Ste K H0 O0 σ H δ T → D.ct σ H
  | .ok (.rt s) δ => ∀ v σ H, Apart as σ0 σ → Ste K H0 O0 σ H δ ((v, s) :: T) → D.rt v H
  | .exn x δ => ∀ cls d σ H, Apart as σ0 σ → ExnOk K H x cls d → Ste K H0 O0 σ H δ T → W cls d σ H
  | .bad => False
def tS (K : PySem.W.Frag) (W : WX) (as : List Nat) (m : M Flw) : TS := fun D σ H => ∃ σ0 H0 O0 T δ, Apart as σ0 σ ∧ Ste K H0 O0 σ H δ T ∧ Post K W as σ0 H0 O0 T D (m δ)
abbrev SS (X : Cx) (W : WX) (as : List Nat) (st : Stmt) (m : M Flw) : Prop := PS X st (tS X.K W as m)
abbrev SSs (X : Cx) (W : WX) (as : List Nat) (st : List Stmt) (m : M Flw) : Prop := PSs X st (tS X.K W as m)

section
variable {K : PySem.W.Frag} {H0 H H' : Hp} {O0 : List Addr} {σ : St} {δ δ' : DS} {T T' : List (V × SV)} {v : V} {s : SV} {d : PyData} {W : WX}
theorem Ste.put {i : Nat} (h : Ste K H0 O0 σ H δ ((v, s) :: T)) (hi : i < δ.length) : Ste K H0 O0 (σ.set i (some v)) H (δ.set i (some s)) T := by
  obtain ⟨L, a, R⟩ := h
  obtain ⟨L1, L2, L3, rfl, b⟩ := a.put v s (by rw [a.length]; exact hi)
  refine ⟨_, b, ?_⟩
  have p : (L1 ++ L2 ++ L3 ++ (v, s) :: T).Perm (L2 ++ (L1 ++ (v, s) :: L3 ++ T)) := by
    have p1 : (L1 ++ L2 ++ L3 ++ (v, s) :: T).Perm ((v, s) :: (L1 ++ L2 ++ L3 ++ T)) := List.perm_middle
    have p2 : (L2 ++ (L1 ++ (v, s) :: L3 ++ T)).Perm ((v, s) :: (L1 ++ L2 ++ L3 ++ T)) := by
      have q1 : (L1 ++ (v, s) :: L3 ++ T).Perm ((v, s) :: (L1 ++ L3 ++ T)) := by
        rw [List.append_assoc, List.append_assoc]; exact List.perm_middle
      have q2 : (L2 ++ (v, s) :: (L1 ++ L3 ++ T)).Perm ((v, s) :: (L2 ++ (L1 ++ L3 ++ T))) := List.perm_middle
      have q3 : (L2 ++ (L1 ++ L3 ++ T)).Perm (L1 ++ L2 ++ L3 ++ T) := by
        rw [← List.append_assoc, ← List.append_assoc]
        exact (List.perm_append_comm.append_right _).append_right _
      exact ((q1.append_left L2).trans q2).trans (q3.cons _)
    exact p1.trans p2.symm
  exact (R.perm p).drop
theorem Sl.agree {σ σ' : St} {δ : DS} {L : List (V × SV)} (h : Sl σ δ L) (hl : σ'.length = σ.length) (e : ∀ i s, at? δ i = some s → σ'[i]? = σ[i]?) : Sl σ' δ L := by
  induction h generalizing σ' with
  | nil =>
    cases σ' with
    | nil => exact .nil
    | cons _ _ => simp at hl
  | hole h ih =>
    cases σ' with
    | nil => simp at hl
    | cons y σ' => exact .hole (ih (by simpa using hl) fun i s hs => by simpa using e (i + 1) s (by simpa [at?] using hs))
  | @full v s σ δ L h ih =>
    cases σ' with
    | nil => simp at hl
    | cons y σ' =>
      have q := e 0 s (by simp [at?])
      have q' : y = some v := by simpa using q
      subst q'
      exact .full (ih (by simpa using hl) fun i s hs => by simpa using e (i + 1) s (by simpa [at?] using hs))
end

section
variable {X : Cx} {W : WX} {as : List Nat} {pos p : Pos}
theorem ss_nil : SSs X W as [] (ret .nx) := pss_nil.imp fun D σ H h => by
  obtain ⟨σ0, H0, O0, T, δ, ap, st, hm⟩ := h
  exact hm σ H ap st
theorem ss_cons {st : Stmt} {r : List Stmt} {a b : M Flw} (ha : SS X W as st a) (hb : SSs X W as r b) : SSs X W as (st :: r) (sSeq a b) := (pss_cons ha hb).imp fun D σ H h => by
  obtain ⟨σ0, H0, O0, T, δ, ap, st, hm⟩ := h
  refine ⟨σ0, H0, O0, T, δ, ap, st, ?_⟩
  unfold sSeq bnd at hm
  cases e1 : a δ with
  | bad => simp only [e1] at hm; exact hm
  | exn x δ1 => simp only [e1] at hm; exact hm
  | ok f δ1 =>
    simp only [e1] at hm
    cases f with
    | nx => exact fun σ' H' ap' st' => ⟨σ0, H0, O0, T, δ1, ap', st', hm⟩
    | bk => exact hm
    | ct => exact hm
    | rt s => exact hm
theorem ss_one {st : Stmt} {a : M Flw} (ha : SS X W as st a) : SSs X W as [st] a := pss_one ha
theorem ss_pass : SS X W as (.Pass pos) (ret .nx) := ps_pass.imp fun D σ H h => by
  obtain ⟨σ0, H0, O0, T, δ, ap, st, hm⟩ := h
  exact hm σ H ap st
theorem ss_break : SS X W as (.Break pos) (ret .bk) := ps_break.imp fun D σ H h => by
  obtain ⟨σ0, H0, O0, T, δ, ap, st, hm⟩ := h
  exact hm σ H ap st
theorem ss_continue : SS X W as (.Continue pos) (ret .ct) := ps_continue.imp fun D σ H h => by
  obtain ⟨σ0, H0, O0, T, δ, ap, st, hm⟩ := h
  exact hm σ H ap st
def noComp : Expr → Bool
  | .ListComp _ _ _ _ | .SetComp _ _ _ _ | .DictComp _ _ _ _ _ => false
  | _ => true
theorem swaps_no {e : Expr} (h : noComp e = true) (t : Option Expr) (l : Nat) (env : Env) : swapsWith e t l env = pure false := by
  cases e <;> first | rfl | cases h
theorem ss_do {e : Expr} {m : M Opd} (hn : noComp e = true) (he : SE X W e m) : SS X W as (.Expr e pos) (sDo m) := (ps_expr he (swaps_no hn _ _ _)).imp fun D σ H h => by
  obtain ⟨σ0, H0, O0, T, δ, ap, st, hm⟩ := h
  refine ⟨H0, O0, T, δ, st, ?_⟩
  unfold sDo bnd at hm
  cases e1 : m δ with
  | bad => simp only [e1] at hm; exact hm
  | exn x δ1 => simp only [e1] at hm; exact fun cls d H' a b => hm cls d σ H' ap a b
  | ok o δ1 =>
    simp only [e1, ret] at hm
    exact fun v H' ov st' => hm σ H' ap st'.drop
/-- an if -/
theorem ss_if {c : Expr} {a b : List Stmt} {mc : M Bool} {ma mb : M Flw} (hc : ST X W c mc) (ha : SSs X W as a ma) (hb : SSs X W as b mb) : SS X W as (.If c a b pos) (mIf mc ma mb) := (ps_if hc ha hb).imp fun D σ H h => by
  obtain ⟨σ0, H0, O0, T, δ, ap, st, hm⟩ := h
  refine ⟨H0, O0, T, δ, st, ?_⟩
  unfold mIf bnd at hm
  cases e1 : mc δ with
  | bad => simp only [e1] at hm; exact hm
  | exn x δ1 => simp only [e1] at hm; exact fun cls d H' a b => hm cls d σ H' ap a b
  | ok k δ1 =>
    simp only [e1] at hm
    intro H1 st1
    cases k with
    | true => exact ⟨σ0, H0, O0, T, δ1, ap, st1, hm⟩
    | false => exact ⟨σ0, H0, O0, T, δ1, ap, st1, hm⟩
/-- a while -/
theorem ss_while {c : Expr} {body : List Stmt} {mc : M Bool} {mb : M Flw} (hp : PassesOwn (model X.prog X.w) X.A X.env X.xe) (hc : ST X W c mc) (hb : SSs X W as body mb) : SS X W as (.While c body [] pos) (mWhile mc mb) :=
  (ps_while hp hc hb).imp fun D σ H h => by
    obtain ⟨σ0, H0, O0, T, δ, ap, st, hm⟩ := h
    have nb : mWhile mc mb δ ≠ .bad := fun e => by rw [e] at hm; exact hm
    obtain ⟨n, e⟩ := mWhile_ex nb
    rw [e] at hm
    refine ⟨fun n σ H => ∃ δ, Apart as σ0 σ ∧ Ste X.K H0 O0 σ H δ T ∧ Post X.K W as σ0 H0 O0 T D (loopN mc mb n δ), ⟨n, δ, ap, st, hm⟩, ?_⟩
    rintro n σ H ⟨δ, ap, st, hm⟩
    refine ⟨H0, O0, T, δ, st, ?_⟩
    cases n with
    | zero => exact False.elim hm
    | succ n =>
      unfold loopN bnd at hm
      cases e1 : mc δ with
      | bad => simp only [e1] at hm; exact hm
      | exn x δ1 => simp only [e1] at hm; exact fun cls d H' a b => hm cls d σ H' ap a b
      | ok k δ1 =>
        simp only [e1] at hm
        intro H1 st1
        cases k with
        | false =>
          simp only [Bool.false_eq_true, if_false, ret] at hm ⊢
          exact hm σ H1 ap st1
        | true =>
          simp only [if_true] at hm ⊢
          refine ⟨fun σ' H' => ∃ δ, Apart as σ0 σ' ∧ Ste X.K H0 O0 σ' H' δ T ∧ Post X.K W as σ0 H0 O0 T D (loopN mc mb n δ), fun σ' H' q => ⟨n, Nat.lt_succ_self _, q⟩, σ0, H0, O0, T, δ1, ap, st1, ?_⟩
          cases e2 : mb δ1 with
          | bad => simp only [e2] at hm; exact hm
          | exn x δ2 => simp only [e2] at hm; exact hm
          | ok f δ2 =>
            simp only [e2] at hm
            cases f with
            | nx => exact fun σ' H' ap' st' => ⟨δ2, ap', st', hm⟩
            | ct => exact fun σ' H' ap' st' => ⟨δ2, ap', st', hm⟩
            | bk => exact hm
            | rt s => exact hm
/-! ### returns -/
theorem leave_gh {K : PySem.W.Frag} {H0 H : Hp} {O0 : List Addr} {σ : St} {δ δ' : DS} {T : List (V × SV)} {v : V} {o : Opd} {np : Nat} (ov : OpdV σ v o) (h : Ste K H0 O0 σ H δ (tmp v o ++ T)) {s' : SV} (e : leave np o δ = .ok s' δ') {Q : Hp → Prop}
    (q : ∀ H', Stays H H' → Ste K H0 O0 σ H' δ' ((v, s') :: T) → Q H') : Gh Q H := by
  cases o with
  | val s => exact take_gh ov h (by exact e) q
  | slot i =>
    unfold leave at e
    by_cases hi : i < np
    · simp only [if_pos hi] at e
      exact take_gh ov h e q
    · simp only [if_neg hi] at e
      cases e1 : at? δ i with
      | none => simp only [e1] at e; cases e
      | some s0 =>
        simp only [e1] at e
        cases e
        obtain ⟨L, a, R⟩ := h
        obtain ⟨v', L1, L2, rfl, ev, f, g⟩ := a.get e1
        have q' : v' = v := by
          have ov' : σ[i]? = some (some v) := ov
          rw [ov'] at ev; cases ev; rfl
        subst q'
        refine .done (q H (Stays.refl _) ⟨L1 ++ L2, g, R.perm ?_⟩)
        have p : (L1 ++ (v', s') :: L2 ++ T).Perm ((v', s') :: (L1 ++ L2 ++ T)) := by
          rw [List.append_assoc, List.append_assoc]
          exact List.perm_middle
        have p2 : (L1 ++ L2 ++ (v', s') :: T).Perm ((v', s') :: (L1 ++ L2 ++ T)) := List.perm_middle
        exact p.trans p2.symm
theorem take_noexn {o : Opd} {δ δ' : DS} {x : Exn} : take o δ ≠ .exn x δ' := by
  cases o with
  | val s => simp [take, ret]
  | slot i =>
    simp only [take]
    cases h : (at? δ i).bind SV.data <;> simp
theorem leave_noexn {np : Nat} {o : Opd} {δ δ' : DS} {x : Exn} : leave np o δ ≠ .exn x δ' := by
  cases o with
  | val s => simp [leave, ret]
  | slot i =>
    unfold leave
    by_cases hi : i < np
    · simp only [if_pos hi]; exact take_noexn
    · simp only [if_neg hi]
      cases at? δ i <;> simp
theorem ss_ret {e : Expr} {m : M Opd} {np : Nat} (he : SE X W e m) : SS X W as (.Return (some e) pos) (sRet np m) := (ps_ret he.gh).imp fun D σ H h => by
  obtain ⟨σ0, H0, O0, T, δ, ap, st, hm⟩ := h
  refine ⟨H0, O0, T, δ, st, ?_⟩
  unfold sRet bnd at hm
  cases e1 : m δ with
  | bad => simp only [e1] at hm; exact hm
  | exn x δ1 => simp only [e1] at hm; exact fun cls d H' a b => hm cls d σ H' ap a b
  | ok o δ1 =>
    simp only [e1] at hm
    intro v H1 ov st1
    cases e2 : leave np o δ1 with
    | bad => simp only [e2] at hm; exact False.elim hm
    | exn x δ2 => exact absurd e2 leave_noexn
    | ok s δ2 =>
      simp only [e2, ret] at hm
      exact leave_gh ov st1 e2 fun H2 _ st2 => hm v σ H2 ap st2
theorem ss_retN : SS X W as (.Return none pos) sRetN := ps_retN.imp fun D σ H h => by
  obtain ⟨σ0, H0, O0, T, δ, ap, st, hm⟩ := h
  exact hm .non σ H ap (st.res (Res.same .non))
/-! ### targets -/
def tG (K : PySem.W.Frag) (g : TgD) (is : List Nat) : TG := fun v σ H Q => ∃ H0 O0 T δ s δ', Ste K H0 O0 σ H δ ((v, s) :: T) ∧ g s δ = some δ' ∧ ∀ σ' H', Apart is σ σ' → Ste K H0 O0 σ' H' δ' T → Q σ' H'
abbrev SG (X : Cx) (e : Expr) (g : TgD) (is : List Nat) : Prop := PG X e (tG X.K g is)
theorem apart_set {i : Nat} {σ : St} {o : Option V} : Apart [i] σ (σ.set i o) := ⟨by simp, fun j h => by rw [List.getElem?_set_ne (fun e => h (by simp [e]))]⟩
theorem sg_name {i : Nat} {x : Str} (hN : X.N.Nodup) (hi : X.N[i]? = some x) (hx : Loc X.env.scope x) (hf : X.fn x = true ∨ X.env.scope.names.lookup x = some .local) : SG X (.Name x pos) (Ev.gName i) [i] := (pg_name hN hi hx hf).imp fun v σ H Q h => by
  obtain ⟨H0, O0, T, δ, s, δ', st, hg, hm⟩ := h
  unfold Ev.gName at hg
  by_cases hl : i < δ.length
  · rw [if_pos hl] at hg
    cases hg
    exact hm _ H apart_set (st.put hl)
  · rw [if_neg hl] at hg
    cases hg
end
end Ev

/-! D9: targets, stores, loops, comprehensions. -/
namespace Ev
open PySem L2
def pairs (vs : List V) (ds : List PyData) : List (V × SV) := vs.zip (ds.map SV.dat)
section
variable {K : PySem.W.Frag} {H0 H H' : Hp} {O0 : List Addr} {σ : St} {δ δ' : DS} {T T' : List (V × SV)} {v : V} {s : SV} {d : PyData} {W : WX}
theorem Ste.pushPairs : ∀ {vs : List V} {ds : List PyData} {T : List (V × SV)}, IsAll K H vs ds → Ste K H0 O0 σ H δ T → Ste K H0 O0 σ H δ (pairs vs ds ++ T)
  | _, [], T, .nil, h => h
  | v :: vs, d :: ds, T, .cons a t, h => (Ste.pushPairs t h).res (Res.same a)
theorem Ste.pairsAll : ∀ {vs : List V} {ds : List PyData} {T : List (V × SV)}, vs.length = ds.length → Ste K H0 O0 σ H δ (pairs vs ds ++ T) → IsAll K H vs ds
  | [], [], _, _, _ => .nil
  | v :: vs, d :: ds, T, e, h => by
    obtain ⟨o, en⟩ := h.ent (e := (v, SV.dat d)) (by simp [pairs])
    cases en with
    | dat i => exact .cons i (Ste.pairsAll (T := T) (by simpa using e) h.drop1)
end
def tGs (K : PySem.W.Frag) (gs : List TgD) (is : List Nat) : TGs := fun vs σ H Q => ∃ H0 O0 T δ ds δ', vs.length = ds.length ∧ Ste K H0 O0 σ H δ (pairs vs ds ++ T) ∧ gTupL gs ds δ = some δ' ∧ ∀ σ' H', Apart is σ σ' → Ste K H0 O0 σ' H' δ' T → Q σ' H'
section
variable {X : Cx} {W : WX} {as : List Nat} {pos p : Pos}
theorem sgs_nil : PGs X [] (tGs X.K [] []) := pgs_nil.imp fun vs σ H Q h => by
  obtain ⟨H0, O0, T, δ, ds, δ', hl, st, hg, hm⟩ := h
  cases ds with
  | nil =>
    cases vs with
    | nil => cases hg; exact ⟨rfl, hm σ H (Apart.refl _ _) st⟩
    | cons _ _ => simp at hl
  | cons _ _ => cases hg
theorem each_plain {e : Expr} (h : plainE e = true) (es : List Expr) (env : Env) : assignEach (e :: es) env = (false, assign e env) :: assignEach es env := by
  cases e <;> first | rfl | cases h
theorem sgs_cons {e : Expr} {es : List Expr} {g : TgD} {gs : List TgD} {is js : List Nat} (hp : plainE e = true) (h1 : SG X e g is) (h2 : PGs X es (tGs X.K gs js)) : PGs X (e :: es) (tGs X.K (g :: gs) (is ++ js)) := by
  refine (pgs_cons h1 h2 (by rw [each_plain hp]; rfl)).imp fun vs σ H Q h => ?_
  obtain ⟨H0, O0, T, δ, ds, δ', hl, st, hg, hm⟩ := h
  cases ds with
  | nil => cases hg
  | cons d ds =>
    cases vs with
    | nil => simp at hl
    | cons v vs =>
      obtain ⟨δ1, g1, g2⟩ := Option.bind_eq_some_iff.mp hg
      exact ⟨v, vs, rfl, H0, O0, pairs vs ds ++ T, δ, .dat d, δ1, st, g1, fun σ' H' a st' => ⟨H0, O0, T, δ1, ds, δ', by simpa using hl, st', g2, fun σ2 H2 a2 st2 => hm σ2 H2 ((a.mono fun i h => List.mem_append_left _ h).trans (a2.mono fun i h => List.mem_append_right _ h)) st2⟩⟩
theorem each_len {env : Env} : ∀ {es : List Expr}, es.all plainE = true → (assignEach es env).length = es.length ∧ (assignEach es env).findIdx? (·.1) = none
  | [], _ => ⟨rfl, rfl⟩
  | e :: es, h => by
    rw [List.all_cons, Bool.and_eq_true] at h
    obtain ⟨h1, h2⟩ := each_len (env := env) h.2
    rw [each_plain h.1]
    refine ⟨by simp [h1], ?_⟩
    rw [List.findIdx?_cons]
    simp [h2]
theorem gTupL_len : ∀ {gs : List TgD} {ds : List PyData} {δ δ' : DS}, gTupL gs ds δ = some δ' → ds.length = gs.length
  | [], [], _, _, _ => rfl
  | [], _ :: _, _, _, h => by cases h
  | _ :: _, [], _, _, h => by cases h
  | g :: gs, d :: ds, δ, δ', h => by
    obtain ⟨δ1, g1, g2⟩ := Option.bind_eq_some_iff.mp h
    simp [gTupL_len g2]
theorem tupOf_eq {s : SV} {ds : List PyData} (h : tupOf s = some ds) : s = .dat (.tuple ds) := by
  unfold tupOf at h
  split at h
  · cases h; rfl
  · cases h
theorem sg_tup {es : List Expr} {k : Nat} {gs : List TgD} {is : List Nat} (hc : X.calm = true) (hp : es.all plainE = true) (hl : gs.length = es.length) (h : PGs X es (tGs X.K gs is)) : SG X (.Tuple es k pos) (Ev.gTup gs) is :=
  (pg_tup hc h (each_len hp).1 (each_len hp).2).imp fun v σ H Q h => by
    obtain ⟨H0, O0, T, δ, s, δ', st, hg, hm⟩ := h
    obtain ⟨ds, g1, g2⟩ := Option.bind_eq_some_iff.mp hg
    cases tupOf_eq g1
    obtain ⟨o, en⟩ := st.ent (e := (v, SV.dat (.tuple ds))) (by simp)
    cases en with
    | dat i =>
      cases i with
      | @tup a xs _ hs t => exact ⟨a, xs, rfl, hs, by rw [t.length, gTupL_len g2, hl], H0, O0, T, δ, ds, δ', t.length, (st.drop1).pushPairs t, g2, hm⟩
/-! ### stores -/
theorem sSet_t {g : TgD} {m : M Opd} {is : List Nat} (hin : ∀ i ∈ is, i ∈ as) {D : Ends} {σ : St} {H : Hp} (h : tS X.K W as (sSet g m) D σ H) : tE X.K W m σ H fun x H1 => Gh (fun H2 => tG X.K g is x σ H2 D.nx) H1 := by
  obtain ⟨σ0, H0, O0, T, δ, ap, st, hm⟩ := h
  refine ⟨H0, O0, T, δ, st, ?_⟩
  unfold sSet bnd at hm
  cases e1 : m δ with
  | bad => simp only [e1] at hm; exact hm
  | exn x δ1 => simp only [e1] at hm; exact fun cls d H' a b => hm cls d σ H' ap a b
  | ok o δ1 =>
    simp only [e1] at hm
    intro v H1 ov st1
    cases e2 : take o δ1 with
    | bad => simp only [e2] at hm; exact False.elim hm
    | exn x δ2 => exact absurd e2 take_noexn
    | ok s δ2 =>
      simp only [e2, asg] at hm
      cases e3 : g s δ2 with
      | none => simp only [e3] at hm; exact False.elim hm
      | some δ3 =>
        simp only [e3, ret] at hm
        exact take_gh ov st1 e2 fun H2 _ st2 => ⟨H0, O0, T, δ2, s, δ3, st2, e3, fun σ' H' ap' st' => hm σ' H' (ap.trans (ap'.mono hin)) st'⟩
theorem gName_t {K : PySem.W.Frag} {i : Nat} {v : V} {σ : St} {H : Hp} {Q : St → Hp → Prop} (q : tG K (Ev.gName i) [i] v σ H Q) : Q (σ.set i (some v)) H := by
  obtain ⟨H0, O0, T, δ, s, δ', st, hg, hm⟩ := q
  unfold Ev.gName at hg
  by_cases hl : i < δ.length
  · rw [if_pos hl] at hg
    cases hg
    exact hm _ H apart_set (st.put hl)
  · rw [if_neg hl] at hg
    cases hg
theorem ss_set {i : Nat} {x : Str} {e : Expr} {m : M Opd} (hN : X.N.Nodup) (hi : X.N[i]? = some x) (hx : Loc X.env.scope x) (hf : X.fn x = true ∨ X.env.scope.names.lookup x = some .local) (hin : ∀ j ∈ [i], j ∈ as) (he : SE X W e m)
    (hs : swapsWith e (some (.Name x p)) pos.line X.env = pure false) : SS X W as (.Assign [.Name x p] e pos) (sSet (Ev.gName i) m) := (ps_set hN hi hx he.gh hs hf).imp fun D σ H h => tE_mono (sSet_t (is := [i]) hin h) fun v H1 g => g.mono fun H2 q => gName_t q
theorem ss_asg {tg e : Expr} {g : TgD} {is : List Nat} {m : M Opd} (hin : ∀ j ∈ is, j ∈ as) (he : SE X W e m) (hg : SG X tg g is) (hs : swapsWithSole [tg] e pos.line X.env = pure false) (hw : swappedStores [tg] e X.env = pure none) (hp : plainE tg = true) :
    SS X W as (.Assign [tg] e pos) (sSet g m) := (ps_asg he.gh hg hs hw (by rw [each_plain hp]; rfl)).imp fun D σ H h => sSet_t hin h
/-! ### what is walked -/
def Stand (K : PySem.W.Frag) (E : List (V × SV)) (H : Hp) : Prop := ∀ e ∈ E, ∃ o, Ent K H e o
/-- an iterator over these items, while the things E stand -/
def ItR (K : PySem.W.Frag) (J : It) (ds : List PyData) (E : List (V × SV)) : Prop := ∃ Y, Walk J ds.length (Stand K E) Y ∧ ∀ i H x H', Y i H x H' → Stand K E H → Kp [] H H' ∧ ∃ d, ds[i]? = some d ∧ IsD K H' x d
theorem Ste.stand {K : PySem.W.Frag} {H0 H : Hp} {O0 : List Addr} {σ : St} {δ : DS} {E T : List (V × SV)} (h : Ste K H0 O0 σ H δ (E ++ T)) : Stand K E H := fun e he => h.ent (List.mem_append_left _ he)
def tI (K : PySem.W.Frag) (W : WX) (m : M (List PyData)) : TI := fun σ H R => ∃ H0 O0 T δ, Ste K H0 O0 σ H δ T ∧ match m δ with
  | .ok ds δ' => ∀ J H' E, Ste K H0 O0 σ H' δ' (E ++ T) → ItR K J ds E → R J H'
  | .exn x δ' => ∀ cls d H', ExnOk K H' x cls d → Ste K H0 O0 σ H' δ' T → W cls d σ H'
  | .bad => False
abbrev SI (X : Cx) (W : WX) (tg e : Expr) (m : M (List PyData)) : Prop := PI X tg e (tI X.K W m)
theorem stand_dat {K : PySem.W.Frag} {H : Hp} {v : V} {d : PyData} {E : List (V × SV)} (h : Stand K E H) (m : (v, SV.dat d) ∈ E) : IsD K H v d := by
  obtain ⟨o, en⟩ := h _ m
  cases en with | dat i => exact i
theorem frl_list {K : PySem.W.Frag} {H : Hp} {a : Addr} {ds : List PyData} (i : IsD K H (.ref a) (.list ds)) : ∃ vs, FrL H a vs ∧ IsAll K H vs ds := by
  generalize hv : V.ref a = v at i
  generalize hd : PyData.list ds = d at i
  cases i with
  | lst h t => cases hv; cases hd; exact ⟨_, h, t⟩
  | _ => cases hd
theorem sqt_tup {K : PySem.W.Frag} {H : Hp} {a : Addr} {ds : List PyData} (i : IsD K H (.ref a) (.tuple ds)) : ∃ vs, SqT K H a vs ∧ IsAll K H vs ds := by
  generalize hv : V.ref a = v at i
  generalize hd : PyData.tuple ds = d at i
  cases i with
  | tup h t => cases hv; cases hd; exact ⟨_, h, t⟩
  | _ => cases hd
theorem itr_list {K : PySem.W.Frag} {a : Addr} {ds : List PyData} : ItR K (Itl K a) ds [(.ref a, .dat (.list ds))] := by
  refine ⟨fun i H x H' => H' = H ∧ ∃ vs, FrL H a vs ∧ IsAll K H vs ds ∧ vs[i]? = some x, ⟨fun i H hi g => ?_, fun H g => ?_, fun i H x H' hi g y => ?_⟩, fun i H x H' y g => ?_⟩
  · obtain ⟨vs, h, t⟩ := frl_list (stand_dat g List.mem_cons_self)
    exact walk_list.goes i H (by rw [t.length]; exact hi) (.inl (.inr h))
  · obtain ⟨vs, h, t⟩ := frl_list (stand_dat g List.mem_cons_self)
    rw [← t.length]
    exact walk_list.stops H (.inl (.inr h))
  · obtain ⟨vs, h, t⟩ := frl_list (stand_dat g List.mem_cons_self)
    obtain ⟨e1, e2⟩ := walk_list.yields i H x H' (by rw [t.length]; exact hi) (.inl (.inr h)) y
    exact ⟨e1, vs, h, t, e2⟩
  · obtain ⟨rfl, vs, h, t, e⟩ := y
    obtain ⟨d, e', i'⟩ := t.getV e
    exact ⟨Kp.refl _ _, d, e', i'⟩
theorem itr_tup {K : PySem.W.Frag} {a : Addr} {ds : List PyData} : ItR K (Itt K a) ds [(.ref a, .dat (.tuple ds))] := by
  refine ⟨fun i H x H' => H' = H ∧ ∃ vs, SqT K H a vs ∧ IsAll K H vs ds ∧ vs[i]? = some x, ⟨fun i H hi g => ?_, fun H g => ?_, fun i H x H' hi g y => ?_⟩, fun i H x H' y g => ?_⟩
  · obtain ⟨vs, h, t⟩ := sqt_tup (stand_dat g List.mem_cons_self)
    exact walk_tup.goes i H (by rw [t.length]; exact hi) h
  · obtain ⟨vs, h, t⟩ := sqt_tup (stand_dat g List.mem_cons_self)
    rw [← t.length]
    exact walk_tup.stops H h
  · obtain ⟨vs, h, t⟩ := sqt_tup (stand_dat g List.mem_cons_self)
    obtain ⟨e1, e2⟩ := walk_tup.yields i H x H' (by rw [t.length]; exact hi) h y
    exact ⟨e1, vs, h, t, e2⟩
  · obtain ⟨rfl, vs, h, t, e⟩ := y
    obtain ⟨d, e', i'⟩ := t.getV e
    exact ⟨Kp.refl _ _, d, e', i'⟩
theorem itr_str {K : PySem.W.Frag} {z : Str} : ItR K (Its z) (z.cps.toList.map fun c => .str ⟨#[c]⟩) [] :=
  ⟨_, by rw [List.length_map, Array.length_toList]; exact walk_str.mono (fun _ _ => True.intro) fun _ _ _ _ _ _ y => y, fun i H x H' y _ => by
    obtain ⟨rfl, c, e, rfl⟩ := y
    exact ⟨Kp.refl _ _, .str ⟨#[c]⟩, by rw [List.getElem?_map, Array.getElem?_toList, e]; rfl, .str _⟩⟩
theorem itr_range {K : PySem.W.Frag} {lo : Int} {n : Nat} : ItR K (Itr lo n) ((List.range n).map fun i => .int (lo + (i : Nat))) [] :=
  ⟨_, by rw [List.length_map, List.length_range]; exact walk_range.mono (fun _ _ => True.intro) fun _ _ _ _ hi _ y => (⟨hi, y⟩ : _ ∧ _), fun i H x H' y _ => by
    obtain ⟨hi, rfl, rfl⟩ := y
    exact ⟨Kp.refl _ _, .int (lo + i), by rw [List.getElem?_map, List.getElem?_range hi]; rfl, .int _⟩⟩
def kvsD (kvs : List (Key × V)) (ds : List PyData) : List (PyData × PyData) := (kvs.map fun p => kD p.1).zip ds
theorem dic_inv {K : PySem.W.Frag} {H : Hp} {v : V} {z : List (PyData × PyData)} (i : IsD K H v (.dict z)) : ∃ a o kvs ds, v = .ref a ∧ H a = some (.frz o (.dK kvs)) ∧ IsAll K H (kvs.map (·.2)) ds ∧ z = kvsD kvs ds := by
  generalize hd : PyData.dict z = d at i
  cases i with
  | dic h t => cases hd; exact ⟨_, _, _, _, rfl, h, t, rfl⟩
  | _ => cases hd
theorem kvsD_fst {kvs : List (Key × V)} {ds : List PyData} (h : (kvs.map (·.2)).length = ds.length) : (kvsD kvs ds).map (·.1) = kvs.map fun p => kD p.1 := by
  unfold kvsD
  rw [List.map_fst_zip]
  rw [← h, List.length_map, List.length_map]; exact Nat.le_refl _
theorem itr_keys {K : PySem.W.Frag} {H : Hp} {a : Addr} {o : Obj} {kvs : List (Key × V)} {z : List (PyData × PyData)} (h : H a = some (.frz o (.dK kvs))) (e : z.map (·.1) = kvs.map fun p => kD p.1)
    (hz : ∀ H', Stand K [(.ref a, .dat (.dict z))] H' → H' a = some (.frz o (.dK kvs))) : ItR K (Itk a o kvs) (z.map (·.1)) [(.ref a, .dat (.dict z))] := by
  rw [e]
  refine ⟨_, by rw [List.length_map]; exact walk_keys.mono hz fun _ _ _ _ _ _ y => y, fun i H x H' y _ => ?_⟩
  obtain ⟨rfl, k, v, e, rfl⟩ := y
  refine ⟨Kp.refl _ _, kD k, by rw [List.getElem?_map, e]; rfl, ?_⟩
  cases k with
  | inl i => exact .int i
  | inr x => exact .str x
theorem takeD_noexn {o : Opd} {δ δ' : DS} {x : Exn} : takeD o δ ≠ .exn x δ' := by
  intro e
  unfold takeD bnd at e
  cases e1 : take o δ with
  | bad => simp only [e1] at e; cases e
  | exn x δ1 => exact take_noexn e1
  | ok s δ1 =>
    simp only [e1] at e
    cases h : s.data <;> simp only [h, ret, stuck] at e <;> cases e
theorem si_e {tg e : Expr} {m : M Opd} (h : SE X W e m) : SI X W tg e (itE m) := by
  refine ⟨fun pins s σ H R I q => ?_⟩
  obtain ⟨H0, O0, T, δ, st, hm⟩ := q
  unfold itE bnd at hm
  cases e1 : m δ with
  | bad => simp only [e1] at hm
  | exn x δ1 =>
    simp only [e1] at hm
    exact (pi_list h).run pins s σ H R I ⟨H0, O0, T, δ, st, by simp only [e1]; exact hm⟩
  | ok o δ1 =>
    simp only [e1] at hm
    cases e2 : takeD o δ1 with
    | bad => simp only [e2] at hm
    | exn x δ2 => exact absurd e2 takeD_noexn
    | ok d δ2 =>
      simp only [e2] at hm
      have key : ∀ (P : V → Hp → Prop), (∀ v H2, Ste X.K H0 O0 σ H2 δ2 T → IsD X.K H2 v d → P v H2) → tE X.K W m σ H fun x H1 => Gh (P x) H1 := fun P hP => ⟨H0, O0, T, δ, st, by
        simp only [e1]
        exact fun v H1 ov st1 => takeD_gh ov st1 e2 fun H2 _ st2 i2 => hP v H2 st2 i2⟩
      cases d with
      | list ds =>
        refine (pi_list h.gh).run pins s σ H R I (key _ fun v H2 st2 i2 => ?_)
        cases i2 with
        | lst hf t => exact ⟨_, rfl, ⟨_, .inl (.inr hf)⟩, hm _ H2 _ (st2.res (Res.same (.lst hf t))) itr_list⟩
      | tuple ds =>
        refine (pi_tup h.gh).run pins s σ H R I (key _ fun v H2 st2 i2 => ?_)
        cases i2 with
        | tup hf t => exact ⟨_, rfl, ⟨_, hf⟩, hm _ H2 _ (st2.res (Res.same (.tup hf t))) itr_tup⟩
      | str z =>
        refine (pi_str h.gh).run pins s σ H R I (key _ fun v H2 st2 i2 => ?_)
        cases i2 with
        | str _ => exact ⟨z, rfl, hm _ H2 [] st2 itr_str⟩
      | dict kvs => exact False.elim hm
      | none => exact False.elim hm
      | bool _ => exact False.elim hm
      | int _ => exact False.elim hm
/-! ### for -/
theorem ss_for {tg it : Expr} {body : List Stmt} {mi : M (List PyData)} {g : TgD} {is : List Nat} {mb : M Flw} (hin : ∀ j ∈ is, j ∈ as) (hp : PassesOwn (model X.prog X.w) X.A X.env X.xe) (hc : X.calm = true) (hi : SI X W tg it mi) (hg : SG X tg g is) (hb : SSs X W as body mb)
    (hs : ∀ x, foldedSetIterable it X.env x = pure x) : SS X W as (.For tg it body [] pos) (sFor mi g mb) := (ps_for hp hc hi hg hb hs).imp fun D σ H h => by
  obtain ⟨σ0, H0, O0, T, δ, ap, st, hm⟩ := h
  refine ⟨H0, O0, T, δ, st, ?_⟩
  unfold sFor bnd at hm
  cases e1 : mi δ with
  | bad => simp only [e1] at hm; exact hm
  | exn x δ1 => simp only [e1] at hm; exact fun cls d H' a b => hm cls d σ H' ap a b
  | ok ds δ1 =>
    simp only [e1] at hm
    intro J H1 E st1 ⟨Y, w, gy⟩
    refine for_it w (fun i σ H => ∃ δ, Apart as σ0 σ ∧ Ste X.K H0 O0 σ H δ (E ++ T) ∧ Post X.K W as σ0 H0 O0 T D (forM g mb (ds.drop i) δ)) ⟨δ1, ap, st1, hm⟩ (fun i σ H _ ⟨δ, _, q, _⟩ => q.stand) (fun i x σ H2 H3 hi q y => ?_) fun σ H2 q => ?_
    · obtain ⟨δ2, ap2, st2, hm2⟩ := q
      obtain ⟨k, d, ed, id⟩ := gy i H2 x H3 y st2.stand
      have ex : ds.drop i = d :: ds.drop (i + 1) := by
        have hl : i < ds.length := hi
        rw [List.drop_eq_getElem_cons hl]
        obtain ⟨_, e⟩ := List.getElem?_eq_some_iff.mp ed
        rw [e]
      rw [ex] at hm2
      unfold forM bnd at hm2
      have st3 : Ste X.K H0 O0 σ H3 δ2 ((x, .dat d) :: (E ++ T)) := st2.res (Res.dat k id)
      cases e4 : g (.dat d) δ2 with
      | none =>
        have e3 : asg g (.dat d) δ2 = .bad := by unfold asg; rw [e4]
        simp only [e3] at hm2
        exact False.elim hm2
      | some δ3 =>
        have e3 : asg g (.dat d) δ2 = .ok () δ3 := by unfold asg; rw [e4]
        simp only [e3] at hm2
        refine ⟨H0, O0, E ++ T, δ2, .dat d, δ3, st3, e4, fun σ4 H4 ap4 st4 => ⟨σ0, H0, O0, E ++ T, δ3, ap2.trans (ap4.mono hin), st4, ?_⟩⟩
        cases e5 : mb δ3 with
        | bad => simp only [e5] at hm2; exact hm2
        | exn x δ5 => simp only [e5] at hm2; exact fun cls d σ H ap' a b => hm2 cls d σ H ap' a b.drop
        | ok f δ5 =>
          simp only [e5] at hm2
          cases f with
          | nx => exact fun σ5 H5 ap5 st5 => ⟨δ5, ap5, st5, hm2⟩
          | ct => exact fun σ5 H5 ap5 st5 => ⟨δ5, ap5, st5, hm2⟩
          | bk => exact fun σ5 H5 ap5 st5 => hm2 σ5 H5 ap5 st5.drop
          | rt s =>
            refine fun v σ5 H5 ap5 st5 => hm2 v σ5 H5 ap5 (Ste.drop (T' := E) (st5.perm ?_))
            exact List.perm_middle.symm
    · obtain ⟨δ2, ap2, st2, hm2⟩ := q
      rw [List.drop_length] at hm2
      exact hm2 σ H2 ap2 st2.drop
end
end Ev

/-! D10: comprehensions, ranges. -/
namespace Ev
open PySem L2
section
variable {K : PySem.W.Frag} {H0 H H' : Hp} {O0 : List Addr} {σ σ' : St} {δ δ' : DS} {T T' : List (V × SV)} {v : V} {s : SV} {d : PyData} {W : WX}
theorem Ste.agree (h : Ste K H0 O0 σ H δ T) (hl : σ'.length = σ.length) (e : ∀ i s, at? δ i = some s → σ'[i]? = σ[i]?) : Ste K H0 O0 σ' H δ T := by
  obtain ⟨L, a, R⟩ := h
  exact ⟨L, a.agree hl e, R⟩
theorem at?_set_ne {i j : Nat} {o : Option SV} (h : j ≠ i) : at? (δ.set i o) j = at? δ j := by unfold at?; rw [List.getElem?_set_ne (Ne.symm h)]
theorem at?_set_none {i j : Nat} {s : SV} (h : at? (δ.set i none) j = some s) : j ≠ i ∧ at? δ j = some s := by
  by_cases e : j = i
  · subst e
    by_cases hl : j < δ.length
    · rw [at?_set_same hl] at h; cases h
    · have h2 := at?_lt h
      rw [List.length_set] at h2
      exact absurd h2 hl
  · rw [at?_set_ne e] at h
    exact ⟨e, h⟩
theorem at?_wipe {vs : List Nat} {j : Nat} {s : SV} (h : at? (wipeD vs δ) j = some s) : j ∉ vs ∧ at? δ j = some s := by
  induction vs with
  | nil => exact ⟨by simp, h⟩
  | cons i vs ih =>
    obtain ⟨h1, h2⟩ := at?_set_none (δ := wipeD vs δ) h
    obtain ⟨h3, h4⟩ := ih h2
    exact ⟨by simp [h1, h3], h4⟩
theorem Ste.clear (i : Nat) (h : Ste K H0 O0 σ H δ T) : Ste K H0 O0 σ H (δ.set i none) T := by
  obtain ⟨L, a, R⟩ := h
  obtain ⟨L1, L2, L3, rfl, b⟩ := a.clear i
  refine ⟨_, b, Rel.drop (L := L2) (R.perm ?_)⟩
  rw [List.append_assoc (L1 ++ L2), ← List.append_assoc L2, ← List.append_assoc L2]
  have p : (L1 ++ L2).Perm (L2 ++ L1) := List.perm_append_comm
  have q := p.append_right (L3 ++ T)
  rw [List.append_assoc L2 L1 L3, List.append_assoc L2, List.append_assoc L1 L3 T, ← List.append_assoc L2 L1]
  exact q
theorem Ste.wipe : ∀ {vs : List Nat}, Ste K H0 O0 σ H δ T → Ste K H0 O0 σ H (wipeD vs δ) T
  | [], h => h
  | i :: vs, h => (Ste.wipe (vs := vs) h).clear i
/-- what the own names of a comprehension held ahead of it -/
inductive Saved (σ : St) (δ : DS) : List Nat → List (V × SV) → Prop
  | nil : Saved σ δ [] []
  | hole {i : Nat} {vs : List Nat} {S : List (V × SV)} : at? δ i = none → Saved σ δ vs S → Saved σ δ (i :: vs) S
  | full {i : Nat} {vs : List Nat} {S : List (V × SV)} {v : V} {s : SV} : at? δ i = some s → σ[i]? = some (some v) → Saved σ δ vs S → Saved σ δ (i :: vs) ((v, s) :: S)
theorem wipeD_out {vs : List Nat} {j : Nat} (h : j ∉ vs) : at? (wipeD vs δ) j = at? δ j := by
  induction vs with
  | nil => rfl
  | cons i vs ih =>
    show at? ((wipeD vs δ).set i none) j = _
    rw [at?_set_ne (fun e => h (by simp [e]))]
    exact ih fun m => h (List.mem_cons_of_mem _ m)
theorem wipeD_len {vs : List Nat} : (wipeD vs δ).length = δ.length := by
  induction vs with
  | nil => rfl
  | cons i vs ih => show ((wipeD vs δ).set i none).length = _; rw [List.length_set]; exact ih
theorem Ste.save (h : Ste K H0 O0 σ H δ T) : ∀ {vs : List Nat}, vs.Nodup → ∃ S, Saved σ δ vs S ∧ Ste K H0 O0 σ H (wipeD vs δ) (S ++ T)
  | [], _ => ⟨[], .nil, h⟩
  | i :: vs, n => by
    obtain ⟨ni, n⟩ := List.nodup_cons.mp n
    obtain ⟨S, sv, st⟩ := Ste.save h n
    have ei : at? (wipeD vs δ) i = at? δ i := wipeD_out ni
    cases e : at? δ i with
    | none => exact ⟨S, .hole e sv, st.clear i⟩
    | some s =>
      rw [e] at ei
      obtain ⟨L, a, R⟩ := st
      obtain ⟨v, L1, L2, rfl, ev, _, g⟩ := a.get ei
      refine ⟨(v, s) :: S, .full e ev sv, L1 ++ L2, g, R.perm ?_⟩
      have p : (L1 ++ (v, s) :: L2 ++ (S ++ T)).Perm ((v, s) :: (L1 ++ L2 ++ (S ++ T))) := by
        rw [List.append_assoc, List.append_assoc]; exact List.perm_middle
      exact p.trans (List.perm_middle (a := (v, s)) (l₁ := L1 ++ L2) (l₂ := S ++ T)).symm
theorem backD_out {vs : List Nat} {δ0 : DS} {i : Nat} {o : Option SV} (h : i ∉ vs) : backD vs δ0 (δ.set i o) = (backD vs δ0 δ).set i o := by
  induction vs with
  | nil => rfl
  | cons j vs ih =>
    show (backD vs δ0 (δ.set i o)).set j _ = ((backD vs δ0 δ).set j _).set i o
    rw [ih fun m => h (List.mem_cons_of_mem _ m)]
    exact List.set_comm _ _ (fun e => h (by simp [e]))
theorem wipeD_set {vs : List Nat} {i : Nat} {o : Option SV} (h : i ∉ vs) : wipeD vs (δ.set i o) = (wipeD vs δ).set i o := by
  induction vs with
  | nil => rfl
  | cons j vs ih =>
    show (wipeD vs (δ.set i o)).set j _ = ((wipeD vs δ).set j _).set i o
    rw [ih fun m => h (List.mem_cons_of_mem _ m)]
    exact List.set_comm _ _ (fun e => h (by simp [e]))
theorem backD_len {vs : List Nat} {δ0 : DS} : (backD vs δ0 δ).length = δ.length := by
  induction vs with
  | nil => rfl
  | cons i vs ih => show ((backD vs δ0 δ).set i _).length = _; rw [List.length_set]; exact ih
theorem Ste.back {δ0 : DS} : ∀ {vs : List Nat} {S T : List (V × SV)} {δ : DS}, vs.Nodup → δ.length = δ0.length → Saved σ δ0 vs S → Ste K H0 O0 σ H (wipeD vs δ) (S ++ T) → Ste K H0 O0 σ H (backD vs δ0 δ) T
  | [], _, T, δ, _, _, .nil, h => h
  | i :: vs, S, T, δ, n, hl, sv, h => by
    obtain ⟨ni, n⟩ := List.nodup_cons.mp n
    have h' : Ste K H0 O0 σ H (wipeD vs (δ.set i none)) (S ++ T) := by rw [wipeD_set ni]; exact h
    have eb : backD (i :: vs) δ0 δ = (backD vs δ0 (δ.set i none)).set i (at? δ0 i) := by
      rw [backD_out ni, List.set_set]; rfl
    rw [eb]
    cases sv with
    | hole e sv =>
      rw [e]
      exact (Ste.back n (by simpa using hl) sv h').clear i
    | @full _ _ S v s e ev sv =>
      have h2 : Ste K H0 O0 σ H (wipeD vs (δ.set i none)) (S ++ ((v, s) :: T)) := h'.perm (List.perm_middle (a := (v, s)) (l₁ := S) (l₂ := T)).symm
      obtain ⟨L, a, R⟩ := Ste.back n (by simpa using hl) sv h2
      have hi : i < (backD vs δ0 (δ.set i none)).length := by
        rw [backD_len, List.length_set, hl]; exact at?_lt e
      have hn : at? (backD vs δ0 (δ.set i none)) i = none := by
        rw [backD_out ni]
        exact at?_set_same (by rw [backD_out ni, List.length_set] at hi; exact hi)
      rw [e]
      obtain ⟨L1, L2, rfl, b⟩ := a.fill s ev hn
      refine ⟨_, b, R.perm ?_⟩
      have p : (L1 ++ (v, s) :: L2 ++ T).Perm ((v, s) :: (L1 ++ L2 ++ T)) := by
        rw [List.append_assoc, List.append_assoc]; exact List.perm_middle
      exact (List.perm_middle (a := (v, s)) (l₁ := L1 ++ L2) (l₂ := T)).trans p.symm
theorem wipe_apart {vs : List Nat} (a : Apart vs σ σ') : L2.wipe σ' vs = L2.wipe σ vs := by
  have lens : (L2.wipe σ' vs).length = (L2.wipe σ vs).length := by rw [wipe_length, wipe_length]; exact a.1
  have inn : ∀ (τ : St) (ws : List Nat) (j : Nat), j ∈ ws → j < τ.length → (L2.wipe τ ws)[j]? = some none := by
    intro τ ws j
    induction ws with
    | nil => intro h; simp at h
    | cons w ws ih =>
      intro h hl
      show ((L2.wipe τ ws).set w none)[j]? = _
      by_cases e : w = j
      · subst e
        rw [List.getElem?_set_self (by rw [wipe_length]; exact hl)]
      · rw [List.getElem?_set_ne e]
        rcases List.mem_cons.mp h with q | q
        · exact absurd q.symm e
        · exact ih q hl
  refine List.ext_getElem? fun j => ?_
  by_cases hj : j ∈ vs
  · by_cases hl : j < σ.length
    · rw [inn σ vs j hj hl, inn σ' vs j hj (by rw [a.1]; exact hl)]
    · rw [List.getElem?_eq_none (by rw [wipe_length, a.1]; omega), List.getElem?_eq_none (by rw [wipe_length]; omega)]
  · rw [wipe_out hj, wipe_out hj, a.2 j hj]
theorem apart_wipe {vs : List Nat} : Apart vs σ (L2.wipe σ vs) := ⟨wipe_length _ _, fun j h => wipe_out h⟩
theorem Ste.sigma {vs : List Nat} (h : Ste K H0 O0 σ H (wipeD vs δ) T) (a : Apart vs σ σ') : Ste K H0 O0 σ' H (wipeD vs δ) T := h.agree a.1 fun i s e => a.2 i (at?_wipe e).1
theorem Apart.symm {vs : List Nat} (a : Apart vs σ σ') : Apart vs σ' σ := ⟨a.1.symm, fun j h => (a.2 j h).symm⟩
end
section
variable {X : Cx} {W : WX} {pos p : Pos}
def tIfs (K : PySem.W.Frag) (W : WX) (t : M Bool) : TT := tT K W t
theorem sts_nil : PTs X [] (tT X.K W (ret true)) := ⟨fun pins s σ H Q I h => pts_nil.run pins s σ H Q I (by
  obtain ⟨H0, O0, T, δ, st, hm⟩ := h
  exact hm H st)⟩
theorem sts_one {c : Expr} {t : M Bool} (h : ST X W c t) : PTs X [c] (tT X.K W t) := pts_one h
/-- the turns of a comprehension, from the reading of its parts -/
theorem comp_t {K : PySem.W.Frag} {W' : WX} {mi : M (List PyData)} {g : TgD} {t : M Bool} {e : M Opd} {vs is : List Nat} (his : ∀ i ∈ is, i ∈ vs) (hvs : vs.Nodup) {σ : St} {H : Hp} {Q : VK} (h : tE K W (eComp mi g t e vs) σ H Q) :
    tLc (tI K W mi) (tG K g is) (tT K W' t) (fun σ H Q => tE K W' e σ H fun v H' => Gh (Q v) H') vs σ H Q := by
  obtain ⟨H0, O0, T, δ, st, hm⟩ := h
  refine ⟨H0, O0, T, δ, st, ?_⟩
  unfold eComp bnd at hm
  cases e1 : mi δ with
  | bad => simp only [e1] at hm
  | exn x δ1 => simp only [e1] at hm; exact hm
  | ok ds δ1 =>
    simp only [e1] at hm
    cases e2 : compM g t e vs ds [] δ1 with
    | bad => simp only [e2] at hm
    | exn x δ2 => simp only [e2] at hm
    | ok accF δF =>
      simp only [e2] at hm
      intro J H1 E st1 ⟨Y, w, gy⟩ D hD
      obtain ⟨S, sv, st2⟩ := st1.save hvs
      have st3 : Ste K H0 O0 (L2.wipe σ vs) (upd H1 D (.lst [])) (wipeD vs δ1) ((.ref D, .lst []) :: (S ++ (E ++ T))) := (st2.sigma apart_wipe).res (Res.lst hD .nil)
      refine lc_it (g := tG K g is) (tt := tT K W' t) (te := fun σ H Q => tE K W' e σ H fun v H' => Gh (Q v) H') (vs := vs) (σ := σ) (H1 := H1) (D := D) (Qd := Q (.ref D)) w (fun i H => ∃ δ acc, δ.length = δ1.length ∧ Ste K H0 O0 (L2.wipe σ vs) H (wipeD vs δ) ((.ref D, .lst acc) :: (S ++ (E ++ T))) ∧ compM g t e vs (ds.drop i) acc δ = .ok accF δF) ⟨δ1, [], rfl, st3, e2⟩
        (fun i H _ ⟨δ, acc, _, q, _⟩ => ((q.drop1).drop).stand) (fun i x H2 H3 hi q y => ?_) fun H2 q => ?_
      · obtain ⟨δ2, acc, hl, st4, hc⟩ := q
        obtain ⟨k, d, ed, id⟩ := gy i H2 x H3 y ((st4.drop1).drop).stand
        have ex : ds.drop i = d :: ds.drop (i + 1) := by
          have hl : i < ds.length := hi
          rw [List.drop_eq_getElem_cons hl]
          obtain ⟨_, e⟩ := List.getElem?_eq_some_iff.mp ed
          rw [e]
        rw [ex] at hc
        unfold compM bnd at hc
        simp only at hc
        have st5 : Ste K H0 O0 (L2.wipe σ vs) H3 (wipeD vs δ2) ((x, .dat d) :: ((.ref D, .lst acc) :: (S ++ (E ++ T)))) := st4.res (Res.dat k id)
        cases e4 : g (.dat d) (wipeD vs δ2) with
        | none =>
          have e3 : asg g (.dat d) (wipeD vs δ2) = .bad := by unfold asg; rw [e4]
          simp only [e3] at hc
          cases hc
        | some δ3 =>
          have e3 : asg g (.dat d) (wipeD vs δ2) = .ok () δ3 := by unfold asg; rw [e4]
          simp only [e3] at hc
          refine ⟨H0, O0, _, _, .dat d, δ3, st5, e4, fun σ4 H4 ap st6 => ?_⟩
          have ap1 : Apart vs (L2.wipe σ vs) σ4 := ap.mono his
          have ww : L2.wipe (L2.wipe σ vs) vs = L2.wipe σ vs := wipe_apart apart_wipe
          refine ⟨(wipe_apart ap1).trans ww, H0, O0, _, δ3, st6, ?_⟩
          have len3 : ∀ {δ : DS} {σ : St} {H : Hp} {T : List (V × SV)}, Ste K H0 O0 σ H δ T → σ.length = δ.length := fun ⟨L, a, _⟩ => a.length
          have lσ : σ.length = δ1.length := len3 st1
          cases e5 : t δ3 with
          | bad => simp only [e5] at hc; cases hc
          | exn x δ5 => simp only [e5] at hc; cases hc
          | ok b δ5 =>
            simp only [e5] at hc
            intro H5 st7
            have back : ∀ {δ6 : DS} {H6 : Hp} {acc' : List PyData}, Ste K H0 O0 σ4 H6 δ6 ((.ref D, .lst acc') :: (S ++ (E ++ T))) → δ6.length = δ1.length ∧ Ste K H0 O0 (L2.wipe σ vs) H6 (wipeD vs δ6) ((.ref D, .lst acc') :: (S ++ (E ++ T))) := fun {δ6 H6 acc'} st =>
              ⟨by rw [← len3 st, ap1.1, wipe_length]; exact lσ, (st.wipe (vs := vs)).sigma ap1.symm⟩
            cases b with
            | false =>
              simp only [Bool.false_eq_true, if_false] at hc ⊢
              obtain ⟨b1, b2⟩ := back st7
              exact ⟨δ5, acc, b1, b2, hc⟩
            | true =>
              simp only [if_true] at hc ⊢
              refine ⟨H0, O0, _, δ5, st7, ?_⟩
              cases e6 : e δ5 with
              | bad => simp only [e6] at hc; cases hc
              | exn x δ6 => simp only [e6] at hc; cases hc
              | ok o δ6 =>
                simp only [e6] at hc
                intro v H6 ov st8
                cases e7 : takeD o δ6 with
                | bad => simp only [e7] at hc; cases hc
                | exn x δ7 => exact absurd e7 takeD_noexn
                | ok y δ7 =>
                  simp only [e7] at hc
                  refine takeD_gh ov st8 e7 fun H7 _ st9 iy => ?_
                  by_cases hz : acc.length < sizeLine
                  · simp only [if_pos hz] at hc
                    obtain ⟨oo, en⟩ := st9.ent (e := (V.ref D, SV.lst acc)) (by simp)
                    cases en with
                    | @lst _ ws _ hD7 tD7 =>
                      refine ⟨ws, hD7, by rw [tD7.length]; exact hz, ?_⟩
                      have st10 : Ste K H0 O0 σ4 (upd H7 D (.lst (ws ++ [v]))) δ7 ((.ref D, .lst (acc ++ [y])) :: (S ++ (E ++ T))) := by
                        refine Ste.step (Tc := [(V.ref D, SV.lst acc)]) (Tn := [(V.ref D, SV.lst (acc ++ [y]))]) st9 fun oc hoc nd => ?_
                        cases hoc with
                        | cons c n =>
                          cases n
                          cases c with
                          | lst h2 t2 =>
                            have st' : Stays H7 (upd H7 D (.lst (ws ++ [v]))) := (Kp.at (O := [D]) (by simp)).stays fun b hb => by simp at hb; subst hb; exact ⟨_, hD7, by simp, by simp, by simp⟩
                            exact ⟨[D], by simpa using Ents.cons (Ent.lst upd_same ((tD7.append (.cons iy .nil)).stays st')) .nil, by simp, fun a ha => .inl (by simpa using ha), Kp.at (by simp)⟩
                      obtain ⟨b1, b2⟩ := back st10
                      exact ⟨δ7, acc ++ [y], b1, b2, hc⟩
                  · simp only [if_neg hz, stuck] at hc
                    cases hc
      · obtain ⟨δ2, acc, hl, st4, hc⟩ := q
        rw [List.drop_length] at hc
        unfold compM ret at hc
        cases hc
        have st5 : Ste K H0 O0 σ H2 (wipeD vs δF) (S ++ (E ++ ((.ref D, .lst accF) :: T))) := by
          refine (st4.sigma apart_wipe.symm).perm ?_
          rw [← List.append_assoc, ← List.append_assoc]
          exact (List.perm_middle (a := (V.ref D, SV.lst accF)) (l₁ := S ++ E) (l₂ := T)).symm
        have st6 := Ste.back hvs hl sv st5
        exact hm (.ref D) H2 True.intro (Ste.drop (T' := E) st6)
end
end Ev

/-! D11: defs by value, and their calls. -/
namespace Ev
open PySem PySem.Spec L2
open PyProof.Rows hiding St

/-- what a def makes of what it is handed: its value, and what the handed things are behind it -/
inductive FR where
  | ret (r : SV) (fin : List SV)
  | exn (x : Exn) (fin : List SV)
  | bad
abbrev FN := List SV → FR
def lend : Opd → M SV
  | .val s => ret s
  | .slot i => fun δ => match at? δ i with
    | some s => .ok s (δ.set i none)
    | none => .bad
def lends : List Opd → M (List SV)
  | [] => ret []
  | o :: os => bnd (lend o) fun s => bnd (lends os) fun ss => ret (s :: ss)
def give : List Opd → List SV → DS → DS
  | .slot i :: os, s :: ss, δ => give os ss (δ.set i (some s))
  | .val _ :: os, _ :: ss, δ => give os ss δ
  | _, _, δ => δ
/-- the slots that a row of operands lends -/
def slotsO : List Opd → List Nat
  | [] => []
  | .slot i :: os => i :: slotsO os
  | .val _ :: os => slotsO os
def mCall (F : FN) (os : List Opd) : M Opd := bnd (lends os) fun ss δ => match F ss with
  | .ret r fin => .ok (.val r) (give os fin δ)
  | .exn x fin => .exn x (give os fin δ)
  | .bad => .bad
def eCall (F : FN) (m : M (List Opd)) : M Opd := bnd m (mCall F)
/-- the promise of a def -/
def spF (K : PySem.W.Frag) (np : Nat) (F : FN) : Sp := fun vs H Q E => ∃ H0 O0 T ss, vs.length = np ∧ ss.length = np ∧ Rel K H0 O0 H (vs.zip ss ++ T) ∧ match F ss with
  | .ret r fin => fin.length = np ∧ ∀ v H', Rel K H0 O0 H' ((v, r) :: (vs.zip fin ++ T)) → Q v H'
  | .exn x fin => fin.length = np ∧ ∀ cls d H', ExnOk K H' x cls d → Rel K H0 O0 H' (vs.zip fin ++ T) → E cls d H'
  | .bad => False

section
variable {K : PySem.W.Frag} {H0 H H' : Hp} {O0 : List Addr} {σ : St} {δ δ' : DS} {T T' : List (V × SV)} {v : V} {s : SV} {d : PyData}
/-- lending: the things come out of their slots -/
theorem lends_ok : ∀ {os : List Opd} {vs : List V} {δ δ' : DS} {T : List (V × SV)} {ss : List SV}, OpdVs σ vs os → Ste K H0 O0 σ H δ (tmps vs os ++ T) → lends os δ = .ok ss δ' →
    ss.length = vs.length ∧ Ste K H0 O0 σ H δ' (vs.zip ss ++ T) ∧ ∀ i ∈ slotsO os, at? δ' i = none ∧ i < δ'.length
  | [], _, δ, δ', T, ss, .nil, st, h => by
    cases h
    exact ⟨rfl, st, fun i hi => by simp [slotsO] at hi⟩
  | o :: os, v :: vs, δ, δ', T, ss, .cons a b, st, h => by
    unfold lends bnd at h
    have hlen : ∀ {os : List Opd} {δ δ' : DS} {ss : List SV}, lends os δ = .ok ss δ' → δ'.length = δ.length ∧ ∀ i, at? δ i = none → at? δ' i = none := by
      intro os
      induction os with
      | nil => intro δ δ' ss h; cases h; exact ⟨rfl, fun _ h => h⟩
      | cons o os ih =>
        intro δ δ' ss h
        unfold lends bnd at h
        cases e1 : lend o δ with
        | bad => simp only [e1] at h; cases h
        | exn x δ1 => simp only [e1] at h; cases h
        | ok s δ1 =>
          simp only [e1] at h
          cases e2 : lends os δ1 with
          | bad => simp only [e2] at h; cases h
          | exn x δ2 => simp only [e2] at h; cases h
          | ok ss2 δ2 =>
            simp only [e2, ret] at h
            cases h
            obtain ⟨l2, n2⟩ := ih e2
            cases o with
            | val s0 => cases e1; exact ⟨l2, n2⟩
            | slot i =>
              unfold lend at e1
              cases e3 : at? δ i with
              | none => simp only [e3] at e1; cases e1
              | some s0 =>
                simp only [e3] at e1
                cases e1
                refine ⟨by rw [l2, List.length_set], fun j hj => n2 j ?_⟩
                by_cases q : i = j
                · subst q; exact at?_set_same (at?_lt e3)
                · unfold at? at hj ⊢; rw [List.getElem?_set_ne q]; exact hj
    cases e1 : lend o δ with
    | bad => simp only [e1] at h; cases h
    | exn x δ1 => simp only [e1] at h; cases h
    | ok s δ1 =>
      simp only [e1] at h
      cases e2 : lends os δ1 with
      | bad => simp only [e2] at h; cases h
      | exn x δ2 => simp only [e2] at h; cases h
      | ok ss2 δ2 =>
        simp only [e2, ret] at h
        cases h
        have st1 : Ste K H0 O0 σ H δ1 (tmps vs os ++ ((v, s) :: T)) ∧ ∀ i ∈ slotsO [o], at? δ1 i = none ∧ i < δ1.length := by
          cases o with
          | val s0 => cases e1; exact ⟨by simpa [tmps, tmp] using st, fun i hi => by simp [slotsO] at hi⟩
          | slot i =>
            unfold lend at e1
            cases e3 : at? δ i with
            | none => simp only [e3] at e1; cases e1
            | some s0 =>
              simp only [e3] at e1
              cases e1
              refine ⟨?_, fun j hj => ?_⟩
              · obtain ⟨L, z, R⟩ := st
                obtain ⟨v', L1, L2, rfl, ev, f, g⟩ := z.get e3
                have q : v' = v := by
                  have a' : σ[i]? = some (some v) := a
                  rw [a'] at ev; cases ev; rfl
                subst q
                refine ⟨L1 ++ L2, g, R.perm ?_⟩
                simp only [tmps, tmp, List.append_nil]
                have p1 : (L1 ++ (v', s) :: L2 ++ (tmps vs os ++ T)).Perm ((v', s) :: (L1 ++ L2 ++ (tmps vs os ++ T))) := by
                  rw [List.append_assoc, List.append_assoc]; exact List.perm_middle
                have p2 : (L1 ++ L2 ++ (tmps vs os ++ (v', s) :: T)).Perm ((v', s) :: (L1 ++ L2 ++ (tmps vs os ++ T))) := by
                  rw [← List.append_assoc, ← List.append_assoc]; exact List.perm_middle
                exact p1.trans p2.symm
              · simp [slotsO] at hj
                subst hj
                exact ⟨at?_set_same (at?_lt e3), by rw [List.length_set]; exact at?_lt e3⟩
        obtain ⟨l, st2, em⟩ := lends_ok b st1.1 e2
        refine ⟨by simp [l], ?_, fun i hi => ?_⟩
        · refine st2.perm ?_
          rw [List.zip_cons_cons, List.cons_append]
          exact List.perm_middle
        · obtain ⟨l2, n2⟩ := hlen e2
          cases o with
          | val s0 => exact em i (by simpa [slotsO] using hi)
          | slot j =>
            simp [slotsO] at hi
            rcases hi with rfl | hi
            · obtain ⟨q1, q2⟩ := st1.2 i (by simp [slotsO])
              exact ⟨n2 i q1, by rw [l2]; exact q2⟩
            · exact em i hi
/-- giving back -/
theorem give_ok : ∀ {os : List Opd} {vs : List V} {δ : DS} {T : List (V × SV)} {fin : List SV}, OpdVs σ vs os → fin.length = vs.length → (slotsO os).Nodup → (∀ i ∈ slotsO os, at? δ i = none ∧ i < δ.length) →
    Ste K H0 O0 σ H δ (vs.zip fin ++ T) → Ste K H0 O0 σ H (give os fin δ) T
  | [], _, δ, T, fin, .nil, hl, _, _, st => by
    cases fin with
    | nil => simpa [give] using st
    | cons _ _ => simp at hl
  | o :: os, v :: vs, δ, T, fin, .cons a b, hl, nd, em, st => by
    cases fin with
    | nil => simp at hl
    | cons s fin =>
      have hl' : fin.length = vs.length := by simpa using hl
      have st1 : Ste K H0 O0 σ H δ ((v, s) :: (vs.zip fin ++ T)) := by simpa using st
      cases o with
      | val s0 =>
        show Ste K H0 O0 σ H (give os fin δ) T
        exact give_ok b hl' (by simpa [slotsO] using nd) (fun i hi => em i (by simpa [slotsO] using hi)) st1.drop1
      | slot i =>
        have nd' : i ∉ slotsO os ∧ (slotsO os).Nodup := by simpa [slotsO] using nd
        obtain ⟨e1, e2⟩ := em i (by simp [slotsO])
        show Ste K H0 O0 σ H (give os fin (δ.set i (some s))) T
        refine give_ok b hl' nd'.2 (fun j hj => ?_) ?_
        · obtain ⟨q1, q2⟩ := em j (by simp [slotsO, hj])
          refine ⟨?_, by rw [List.length_set]; exact q2⟩
          have ne : i ≠ j := fun q => nd'.1 (by rw [q]; exact hj)
          unfold at? at q1 ⊢
          rw [List.getElem?_set_ne ne]; exact q1
        · obtain ⟨L, z, R⟩ := st1
          obtain ⟨L1, L2, rfl, g⟩ := z.fill s a e1
          refine ⟨_, g, R.perm ?_⟩
          have p1 : (L1 ++ L2 ++ (v, s) :: (vs.zip fin ++ T)).Perm ((v, s) :: (L1 ++ L2 ++ (vs.zip fin ++ T))) := List.perm_middle
          have p2 : (L1 ++ (v, s) :: L2 ++ (vs.zip fin ++ T)).Perm ((v, s) :: (L1 ++ L2 ++ (vs.zip fin ++ T))) := by
            rw [List.append_assoc, List.append_assoc]; exact List.perm_middle
          exact p1.trans p2.symm
theorem lends_nodup : ∀ {os : List Opd} {δ δ' : DS} {ss : List SV}, lends os δ = .ok ss δ' → (slotsO os).Nodup ∧ ∀ i, at? δ i = none → i ∉ slotsO os
  | [], δ, δ', ss, h => ⟨List.nodup_nil, fun i _ => by simp [slotsO]⟩
  | o :: os, δ, δ', ss, h => by
    unfold lends bnd at h
    cases e1 : lend o δ with
    | bad => simp only [e1] at h; cases h
    | exn x δ1 => simp only [e1] at h; cases h
    | ok s δ1 =>
      simp only [e1] at h
      cases e2 : lends os δ1 with
      | bad => simp only [e2] at h; cases h
      | exn x δ2 => simp only [e2] at h; cases h
      | ok ss2 δ2 =>
        obtain ⟨n, f⟩ := lends_nodup e2
        cases o with
        | val s0 => cases e1; exact ⟨n, f⟩
        | slot i =>
          unfold lend at e1
          cases e3 : at? δ i with
          | none => simp only [e3] at e1; cases e1
          | some s0 =>
            simp only [e3] at e1
            cases e1
            refine ⟨by simpa [slotsO] using ⟨f i (at?_set_same (at?_lt e3)), n⟩, fun j hj => ?_⟩
            have ne : i ≠ j := fun q => by rw [q, hj] at e3; cases e3
            have : at? (δ.set i none) j = none := by unfold at? at hj ⊢; rw [List.getElem?_set_ne ne]; exact hj
            simpa [slotsO, ne.symm] using f j this
theorem lends_noexn : ∀ {os : List Opd} {δ δ' : DS} {x : Exn}, lends os δ ≠ .exn x δ'
  | [], δ, δ', x => by simp [lends, ret]
  | o :: os, δ, δ', x => by
    intro h
    unfold lends bnd at h
    cases e1 : lend o δ with
    | bad => simp only [e1] at h; cases h
    | exn y δ1 =>
      cases o with
      | val s => cases e1
      | slot i =>
        unfold lend at e1
        cases e3 : at? δ i <;> simp only [e3] at e1 <;> cases e1
    | ok s δ1 =>
      simp only [e1] at h
      cases e2 : lends os δ1 with
      | bad => simp only [e2] at h; cases h
      | exn y δ2 => exact lends_noexn e2
      | ok ss δ2 => simp only [e2, ret] at h; cases h
end

/-! ### a call of a def -/
section
variable {X : Cx} {W : WX} {as : List Nat} {pos p : Pos}
/-- how many it takes -/
def Ar (np : Nat) (F : FN) : Prop := ∀ ss, match F ss with
  | .ret _ fin => ss.length = np ∧ fin.length = np
  | .exn _ fin => ss.length = np ∧ fin.length = np
  | .bad => True
/-- the promise is met at a call -/
theorem call_t {K : PySem.W.Frag} {np : Nat} {F : FN} (hn : Ar np F) {m : M (List Opd)} {σ : St} {H : Hp} {Q : VK} (h : tE K W (eCall F m) σ H Q) : tA K W m σ H fun vs H1 => spF K np F vs H1 Q (WE W σ) := by
  obtain ⟨H0, O0, T, δ, st, hm⟩ := h
  refine ⟨H0, O0, T, δ, st, ?_⟩
  unfold eCall bnd at hm
  cases e1 : m δ with
  | bad => simp only [e1] at hm
  | exn x δ1 => simp only [e1] at hm; exact hm
  | ok os δ1 =>
    simp only [e1] at hm
    intro vs H1 ov st1
    unfold mCall bnd at hm
    cases e2 : lends os δ1 with
    | bad => simp only [e2] at hm
    | exn x δ2 => exact absurd e2 lends_noexn
    | ok ss δ2 =>
      simp only [e2] at hm
      obtain ⟨l2, st2, em⟩ := lends_ok ov st1 e2
      obtain ⟨nd, _⟩ := lends_nodup e2
      obtain ⟨L, z, R⟩ := st2
      have ar := hn ss
      have pm : ∀ (fin : List SV), (vs.zip fin ++ (L ++ T)).Perm (L ++ (vs.zip fin ++ T)) := fun fin => by
        rw [← List.append_assoc, ← List.append_assoc]
        exact List.perm_append_comm.append_right T
      cases e3 : F ss with
      | bad => simp only [e3] at hm
      | exn x fin =>
        simp only [e3] at hm ar
        refine ⟨H0, O0, L ++ T, ss, l2.symm.trans ar.1, ar.1, R.perm (pm ss).symm, ?_⟩
        simp only [e3]
        refine ⟨ar.2, fun cls d H' a R' => hm cls d H' a (give_ok ov (by rw [ar.2, ← ar.1, l2]) nd em ⟨L, z, R'.perm (pm fin)⟩)⟩
      | ret r fin =>
        simp only [e3] at hm ar
        refine ⟨H0, O0, L ++ T, ss, l2.symm.trans ar.1, ar.1, R.perm (pm ss).symm, ?_⟩
        simp only [e3]
        refine ⟨ar.2, fun v H' R' => hm v H' True.intro (give_ok ov (by rw [ar.2, ← ar.1, l2]) nd em ⟨L, z, R'.perm ?_⟩)⟩
        have p1 : ((v, r) :: (vs.zip fin ++ (L ++ T))).Perm ((v, r) :: (L ++ (vs.zip fin ++ T))) := (pm fin).cons _
        refine p1.trans ?_
        have p2 : (L ++ (vs.zip fin ++ (tmp v (.val r) ++ T))).Perm ((v, r) :: (L ++ (vs.zip fin ++ T))) := by
          have q : (vs.zip fin ++ ((v, r) :: T)).Perm ((v, r) :: (vs.zip fin ++ T)) := List.perm_middle
          have q2 : (L ++ (v, r) :: (vs.zip fin ++ T)).Perm ((v, r) :: (L ++ (vs.zip fin ++ T))) := List.perm_middle
          exact (q.append_left L).trans q2
        exact p2.symm
theorem spF_len {K : PySem.W.Frag} {np : Nat} {F : FN} {vs : List V} {H : Hp} {Q : VK} {E : XK} (h : spF K np F vs H Q E) : vs.length = np := by
  obtain ⟨_, _, _, _, l, _⟩ := h
  exact l
/-- a def's promise where no container's text is under way -/
structure FnG (P : Program) (w : World) (K : PySem.W.Frag) (mg : Str → Option Value) (base : Heap) (k : Nat) (f : Addr) (fd : FuncData) (ps : List Str) (sp : Sp) : Prop where
  size : ∀ vs H Q E, sp vs H Q E → vs.length = ps.length
  go : ∀ (A : Around) (outer : List Env) (s : Shared) (H : Hp) (args : Args) (us : List Value) (vs : List V) (Q : VK) (E : XK), A.guards = some [] → Room k A → Env0 P w K mg base A outer s H → BindsTo s fd args (ps.zip us) → Vals vs us → sp vs H Q E → codeAny (model P w) A (.call (.ref f) args) (CR (L2.CX P w) outer P w H s Q E) s
theorem FnG.run1 {k : Nat} {f : Addr} {fd : FuncData} {ps : List Str} {sp : Sp} (F : FnG X.prog X.w X.K X.mg X.base k f fd ps sp) (hG : X.A.guards = some []) (hr : Room k X.A) (hb : Binds X.K fd ps []) (tk : Takes X W)
    {pins : List (Addr × Obj)} {σ : St} {H : Hp} {s : Shared} {Q : VK} {us : List Value} {vs : List V} (I : Inv X pins σ H s) (r : Vals vs us) (h : sp vs H Q (WE W σ)) : wpAny (model X.prog X.w) X.A (call (.ref f) us) (EP X pins σ Q) X.xe s := by
  have b := hb s us I.kIn (by rw [List.append_nil, ← r.length]; exact F.size _ _ _ _ h)
  rw [List.append_nil] at b
  refine wpAny_call (codeAny_mono (F.go X.A X.stack s H ⟨us, []⟩ us vs Q (WE W σ) hG hr I.env0 b r h) fun out s' hq => ?_)
  rcases out with x | fl
  · exact passAt tk σ pins H s x s' I hq
  · rcases fl with _ | _ | _ | u
    all_goals first | exact I.after hq | exact False.elim hq
/-- a def that may be called by its name -/
structure CalF (P : Program) (w : World) (K : PySem.W.Frag) (mg : Str → Option Value) (base : Heap) (k : Nat) (x : Str) (np : Nat) (F : FN) : Prop where
  ex : ∃ (f : Addr) (fd : FuncData) (ps : List Str), FnG P w K mg base k f fd ps (spF K np F) ∧ mg x = some (.ref f) ∧ PySem.W.keepIn K (.ref f) = true ∧ Binds K fd ps []
  ar : Ar np F
theorem se_call {x : Str} {np : Nat} {F : FN} {k : Nat} {e : Expr} {es : List Expr} {m : M (List Opd)} (c : CalF X.prog X.w X.K X.mg X.base k x np F) (tk : Takes X W) (hG : X.A.guards = some []) (hr : Room k X.A) (hg : Gl X x) (ha : SA X W (e :: es) m) (hp : plainE e = true)
    (hdb : (x == ("__debug__" : Str)) = false) (hpl : (backTo pos (starEach es X.env)).any (·.1) = false) : SE X W (.Call (.Name x p) (e :: es) [] pos) (eCall F m) := by
  obtain ⟨⟨f, fd, ps, ok, hm, hk, hb⟩, ar⟩ := c
  refine ⟨fun pins s σ H Q I h => wpAny_Call_Name_kw (ld_glob I hg hm ?_ hdb)⟩
  refine PySem.W.callWith_K (h₀ := X.base) I.ok.mod.kin hk (thn (ha.run pos pins s σ H _ I (call_t ar h)) fun us s1 ⟨vs, H1, I1, r, q⟩ => ⟨I1.kIn, ?_⟩) (star_plain hp es X.env) hpl
  exact ok.run1 hG hr hb tk I1 r q
end

/-! ### a def by its body -/
/-- what the parameters' things are at the end: a slot that may be written was handed data -/
def fins : List (Bool × SV) → DS → Option (List SV)
  | [], _ => some []
  | (true, s) :: r, _ :: δ => (fins r δ).map (s :: ·)
  | (false, _) :: r, some s :: δ => (fins r δ).map (s :: ·)
  | _, _ => none
def isDat : SV → Bool
  | .dat _ => true
  | _ => false
def marks (as : List Nat) : Nat → List SV → List (Bool × SV)
  | _, [] => []
  | n, s :: ss => (as.contains n, s) :: marks as (n + 1) ss
def fnOut (bs : List (Bool × SV)) : R Flw → FR
  | .ok (.rt r) δ => match fins bs δ with
    | some fin => .ret r fin
    | none => .bad
  | .ok .nx δ => match fins bs δ with
    | some fin => .ret (.dat .none) fin
    | none => .bad
  | .exn x δ => match fins bs δ with
    | some fin => .exn x fin
    | none => .bad
  | _ => .bad
/-- np parameters, nl other names, as: the slots that the body writes -/
def fnOf (np nl : Nat) (as : List Nat) (m : M Flw) : FN := fun ss =>
  if ss.length = np ∧ ((marks as 0 ss).all fun b => !b.1 || isDat b.2) = true then fnOut (marks as 0 ss) (m (ss.map some ++ List.replicate nl none)) else .bad
theorem fins_len : ∀ {bs : List (Bool × SV)} {δ : DS} {fin : List SV}, fins bs δ = some fin → fin.length = bs.length
  | [], _, _, h => by cases h; rfl
  | (true, s) :: r, _ :: δ, fin, h => by
    obtain ⟨f, e, rfl⟩ := Option.map_eq_some_iff.mp h
    simp [fins_len e]
  | (false, _) :: r, some s :: δ, fin, h => by
    obtain ⟨f, e, rfl⟩ := Option.map_eq_some_iff.mp h
    simp [fins_len e]
  | (false, _) :: r, none :: δ, fin, h => by cases h
  | (true, _) :: r, [], fin, h => by cases h
  | (false, _) :: r, [], fin, h => by cases h
theorem marks_len {as : List Nat} : ∀ {n : Nat} {ss : List SV}, (marks as n ss).length = ss.length
  | _, [] => rfl
  | n, s :: ss => by simp [marks, marks_len]
theorem fnOut_ar {bs : List (Bool × SV)} {r : R Flw} {np : Nat} (h : bs.length = np) : match fnOut bs r with
  | .ret _ fin => np = np ∧ fin.length = np
  | .exn _ fin => np = np ∧ fin.length = np
  | .bad => True := by
  have l : ∀ {δ : DS} {fin : List SV}, fins bs δ = some fin → np = np ∧ fin.length = np := fun e => ⟨rfl, by rw [fins_len e, h]⟩
  cases r with
  | bad => simp [fnOut]
  | exn x δ =>
    simp only [fnOut]
    cases e2 : fins bs δ with
    | none => trivial
    | some fin => exact ⟨True.intro, (l e2).2⟩
  | ok f δ =>
    cases f with
    | nx =>
      simp only [fnOut]
      cases e2 : fins bs δ with
      | none => trivial
      | some fin => exact ⟨True.intro, (l e2).2⟩
    | bk => simp [fnOut]
    | ct => simp [fnOut]
    | rt r =>
      simp only [fnOut]
      cases e2 : fins bs δ with
      | none => trivial
      | some fin => exact ⟨True.intro, (l e2).2⟩
theorem fnOf_ar (np nl : Nat) (as : List Nat) (m : M Flw) : Ar np (fnOf np nl as m) := fun ss => by
  unfold fnOf
  by_cases h : ss.length = np ∧ ((marks as 0 ss).all fun b => !b.1 || isDat b.2) = true
  · rw [if_pos h]
    have q := fnOut_ar (r := m (ss.map some ++ List.replicate nl none)) (bs := marks as 0 ss) (np := np) (by rw [marks_len]; exact h.1)
    rw [h.1]
    exact q
  · rw [if_neg h]; trivial
section
variable {K : PySem.W.Frag} {H0 H H' : Hp} {O0 : List Addr} {σ : St} {δ δ' : DS} {T T' : List (V × SV)} {v : V} {s : SV} {d : PyData}
/-- the handed data among the arguments -/
def datsOf : List V → List (Bool × SV) → List (V × SV)
  | v :: vs, (true, s) :: r => (v, s) :: datsOf vs r
  | _ :: vs, (false, _) :: r => datsOf vs r
  | _, _ => []
theorem Sl.start : ∀ {vs : List V} {ss : List SV} {n : Nat}, vs.length = ss.length → Sl (vs.map some ++ List.replicate n none) (ss.map some ++ List.replicate n none) (vs.zip ss)
  | [], [], n, _ => by
    simp only [List.map_nil, List.nil_append, List.zip_nil_right]
    induction n with
    | zero => exact .nil
    | succ n ih => exact .hole ih
  | v :: vs, s :: ss, n, h => .full (Sl.start (by simpa using h))
  | [], _ :: _, _, h => by simp at h
  | _ :: _, [], _, h => by simp at h
/-- data that stand may be told twice -/
theorem Rel.dup {L : List (V × SV)} {D : List (V × SV)} (R : Rel K H0 O0 H L) (hd : ∀ e ∈ D, e ∈ L ∧ isDat e.2 = true) : Rel K H0 O0 H (D ++ L) := by
  induction D with
  | nil => exact R
  | cons e D ih =>
    have R1 := ih fun x hx => hd x (List.mem_cons_of_mem _ hx)
    obtain ⟨m, q⟩ := hd e List.mem_cons_self
    obtain ⟨o, en⟩ := R.ent m
    obtain ⟨v, s⟩ := e
    cases s with
    | dat d =>
      cases en with
      | dat i => exact R1.push (fun O => Kp.refl _ _) i
    | _ => cases q
theorem fins_ok : ∀ {bs : List (Bool × SV)} {vs : List V} {σ : St} {δ : DS} {L A T : List (V × SV)} {fin : List SV}, Sl σ δ L → vs.length = bs.length → (∀ (i : Nat) (v : V) (s : SV), vs[i]? = some v → bs[i]? = some (false, s) → σ[i]? = some (some v)) →
    fins bs δ = some fin → Rel K H0 O0 H (A ++ (datsOf vs bs ++ (L ++ T))) → Rel K H0 O0 H (A ++ (vs.zip fin ++ T))
  | [], [], σ, δ, L, A, T, fin, z, _, _, h, R => by
    cases h
    have p : (A ++ ([] ++ (L ++ T))).Perm (L ++ (A ++ T)) := by
      rw [List.nil_append, ← List.append_assoc, ← List.append_assoc]
      exact List.perm_append_comm.append_right T
    exact (R.perm p).drop
  | (true, s) :: r, v :: vs, x :: σ, o :: δ, L, A, T, fin, z, hl, ha, h, R => by
    obtain ⟨f, e, rfl⟩ := Option.map_eq_some_iff.mp (show (fins r δ).map (s :: ·) = some fin from h)
    have ha' : ∀ (i : Nat) (v : V) (s : SV), vs[i]? = some v → r[i]? = some (false, s) → σ[i]? = some (some v) := fun i v s h1 h2 => by simpa using ha (i + 1) v s (by simpa using h1) (by simpa using h2)
    have R1 : Rel K H0 O0 H ((A ++ [(v, s)]) ++ (datsOf vs r ++ (L ++ T))) := by simpa [datsOf] using R
    have hl' : vs.length = r.length := by simpa using hl
    have R2 : Rel K H0 O0 H ((A ++ [(v, s)]) ++ (vs.zip f ++ T)) := by
      cases z with
      | hole z => exact fins_ok z hl' ha' e R1
      | @full v0 s0 _ _ L0 z =>
        refine fins_ok (L := L0) z hl' ha' e ?_
        have p : ((A ++ [(v, s)]) ++ (datsOf vs r ++ ((v0, s0) :: L0 ++ T))).Perm ((v0, s0) :: ((A ++ [(v, s)]) ++ (datsOf vs r ++ (L0 ++ T)))) := by
          have q1 : (datsOf vs r ++ ((v0, s0) :: (L0 ++ T))).Perm ((v0, s0) :: (datsOf vs r ++ (L0 ++ T))) := List.perm_middle
          have q2 : ((A ++ [(v, s)]) ++ ((v0, s0) :: (datsOf vs r ++ (L0 ++ T)))).Perm ((v0, s0) :: ((A ++ [(v, s)]) ++ (datsOf vs r ++ (L0 ++ T)))) := List.perm_middle
          exact (q1.append_left _).trans q2
        exact Rel.drop (L := [(v0, s0)]) (R1.perm p)
    simpa using R2
  | (false, s1) :: r, v :: vs, _ :: σ, _ :: δ, _ :: L0, A, T, fin, .full (v := v0) (s := s0) z, hl, ha, h, R => by
    obtain ⟨f, e, rfl⟩ := Option.map_eq_some_iff.mp (show (fins r δ).map (s0 :: ·) = some fin from h)
    have ha' : ∀ (i : Nat) (v : V) (s : SV), vs[i]? = some v → r[i]? = some (false, s) → σ[i]? = some (some v) := fun i v s h1 h2 => by simpa using ha (i + 1) v s (by simpa using h1) (by simpa using h2)
    have hl' : vs.length = r.length := by simpa using hl
    have ev : v0 = v := by
      have := ha 0 v s1 rfl rfl
      simpa using this
    subst ev
    have p : (A ++ (datsOf (v0 :: vs) ((false, s1) :: r) ++ ((v0, s0) :: L0 ++ T))).Perm ((A ++ [(v0, s0)]) ++ (datsOf vs r ++ (L0 ++ T))) := by
      have q1 : (datsOf vs r ++ ((v0, s0) :: (L0 ++ T))).Perm ((v0, s0) :: (datsOf vs r ++ (L0 ++ T))) := List.perm_middle
      have e2 : (A ++ [(v0, s0)]) ++ (datsOf vs r ++ (L0 ++ T)) = A ++ ((v0, s0) :: (datsOf vs r ++ (L0 ++ T))) := by simp
      rw [e2]
      exact q1.append_left A
    have R2 := fins_ok (A := A ++ [(v0, s0)]) z hl' ha' e (R.perm p)
    simpa using R2
  | (false, _) :: r, v :: vs, _ :: σ, _ :: δ, L, A, T, fin, .hole z, _, _, h, _ => by cases h
  | _ :: _, [], _, _, _, _, _, _, _, hl, _, _, _ => by simp at hl
  | [], _ :: _, _, _, _, _, _, _, _, hl, _, _, _ => by simp at hl
  | (true, _) :: r, v :: vs, [], _, _, _, _, _, .nil, _, _, h, _ => by cases h
  | (false, _) :: r, v :: vs, [], _, _, _, _, _, .nil, _, _, h, _ => by cases h
end
/-- the context of a def's body -/
abbrev Bx (P : Program) (w : World) (K : PySem.W.Frag) (mg : Str → Option Value) (base : Heap) (N : List Str) (qual : Str) (scope : Scope) (f : Addr) (cdv : Value) (A : Around) (outer : List Env) (s : Shared) (H : Hp) (E : XK) : Cx := cxOf (L2.CX P w) P w K mg base N qual scope f cdv A outer s H E
section
variable {P : Program} {w : World} {K : PySem.W.Frag} {mg : Str → Option Value} {base : Heap}
theorem marks_get {as : List Nat} : ∀ {n : Nat} {ss : List SV} {i : Nat} {b : Bool} {s : SV}, (marks as n ss)[i]? = some (b, s) → b = as.contains (n + i) ∧ ss[i]? = some s
  | _, [], i, b, s, h => by simp [marks] at h
  | n, s0 :: ss, 0, b, s, h => by
    simp [marks] at h
    exact ⟨by rw [← h.1]; simp, by simp [h.2]⟩
  | n, s0 :: ss, i + 1, b, s, h => by
    simp only [marks, List.getElem?_cons_succ] at h
    obtain ⟨a, c⟩ := marks_get h
    exact ⟨by rw [a]; congr 1; omega, by simpa using c⟩
theorem datsOf_mem {as : List Nat} : ∀ {n : Nat} {vs : List V} {ss : List SV}, ((marks as n ss).all fun b => !b.1 || isDat b.2) = true → ∀ e ∈ datsOf vs (marks as n ss), e ∈ vs.zip ss ∧ isDat e.2 = true
  | _, _, [], _, e, he => by cases ‹List V› <;> simp [marks, datsOf] at he
  | _, [], _ :: _, _, e, he => by simp [marks, datsOf] at he
  | n, v :: vs, s :: ss, h, e, he => by
    simp only [marks, List.all_cons, Bool.and_eq_true] at h
    have ih := datsOf_mem (vs := vs) h.2
    simp only [marks] at he
    cases hb : as.contains n with
    | true =>
      rw [hb] at he h
      simp only [datsOf, List.mem_cons] at he
      rcases he with rfl | he
      · exact ⟨by simp, by simpa using h.1⟩
      · exact ⟨by rw [List.zip_cons_cons]; exact List.mem_cons_of_mem _ (ih e he).1, (ih e he).2⟩
    | false =>
      rw [hb] at he
      simp only [datsOf] at he
      exact ⟨by rw [List.zip_cons_cons]; exact List.mem_cons_of_mem _ (ih e he).1, (ih e he).2⟩
/-- a def of the text, by its body, entered where no container's text is under way -/
theorem fnG_of {x qual : Str} {params : Arguments} {body : List Stmt} {scope : Scope} {f : Addr} {fd : FuncData} {N ps : List Str} {k : Nat} {sp : Sp} (F : FunD K x qual params body scope [] [] f fd) (S : FnScope N ps scope) (len : ∀ vs H Q E, sp vs H Q E → vs.length = ps.length)
    (hbody : ∀ (cdv : Value) (A : Around) (outer : List Env) (s : Shared) (H : Hp) (vs : List V) (Q : VK) (E : XK), A.guards = some [] → Room k (A.deeper (PyProof.Rows.envOfC qual scope s.heap.objs.size f cdv)) → sp vs H Q E →
      ∃ t, PSs (Bx P w K mg base N qual scope f cdv A outer s H E) body t ∧ t { nx := fun _ H' => Q .non H', rt := Q } (L2.start N vs) H) : FnG P w K mg base (k + 1) f fd ps sp := by
  obtain ⟨oc, od, dV, kV, doc, pm, an, cdv, ct, osl, rfl, lk, hcd, _, _⟩ := F.ex
  refine ⟨len, fun A outer s H args us vs Q E hG hr e0 hb r hsp => ?_⟩
  have KX : K.In s.heap := e0.mod.kin.keeps fun b o e => (e0.bs b o e).1
  have kd : ∀ y ∈ ps.zip us, scope.names.lookup y.1 = some .local ∨ (scope.names.lookup y.1 = some .cell ∧ ((cellsFrom (s.heap.objs.size + 1) scope.names []).lookup y.1).isSome = true) := by
    rintro ⟨n, v⟩ hy
    exact (S.par n (List.of_mem_zip hy).1).imp id fun q => ⟨q, PySem.W.cellsFrom_some _ _ _ (.inl q)⟩
  refine codeAny_call_function hr.depth (KX _ _ lk) rfl S.co S.gen rfl (PySem.W.codeRec_of KX hcd) (hb _ _ _ _ (wpAny_newFunctionEnv_cells S.kind kd fun env he s1 x => ?_))
  subst he
  refine ⟨(e0.mod.nolimit.keeps fun b o e => (e0.bs b o e).1).keeps x.toInCall.keep, codeAny_func ?_⟩
  obtain ⟨t, ht, hq⟩ := hbody cdv A outer s H vs Q E hG (hr.deeper _) hsp
  refine wpAny_mono (ht.run [] s1 (L2.start N vs) H _ (inv_start S hr.hd e0 (len _ _ _ _ hsp) r x) hq) (fun fl s' hs => ?_) fun _ _ hs => hs
  rcases fl with _ | _ | _ | u
  · obtain ⟨σ', H', J, q⟩ := hs; exact ⟨V.non, H', J.os, J.bare, J.base, J.hok, rfl, q⟩
  · obtain ⟨_, _, _, q⟩ := hs; exact q.elim
  · obtain ⟨_, _, _, q⟩ := hs; exact q.elim
  · obtain ⟨v, σ', H', J, rv, q⟩ := hs; exact ⟨v, H', J.os, J.bare, J.base, J.hok, rv, q⟩
/-- THE RULE for a def -/
theorem fnG_fn {x qual : Str} {params : Arguments} {body : List Stmt} {scope : Scope} {f : Addr} {fd : FuncData} {N ps : List Str} {k np nl : Nat} {as : List Nat} {m : M Flw} (F : FunD K x qual params body scope [] [] f fd) (S : FnScope N ps scope) (hps : ps.length = np) (hN : N.length = np + nl)
    (hbody : ∀ (cdv : Value) (A : Around) (outer : List Env) (s : Shared) (H : Hp) (E : XK), A.guards = some [] → Room k (A.deeper (PyProof.Rows.envOfC qual scope s.heap.objs.size f cdv)) → ∀ W : WX, Takes (Bx P w K mg base N qual scope f cdv A outer s H E) W →
      SSs (Bx P w K mg base N qual scope f cdv A outer s H E) W as body m) : FnG P w K mg base (k + 1) f fd ps (spF K np (fnOf np nl as m)) := by
  refine fnG_of F S (fun vs H Q E h => by rw [spF_len h, hps]) (fun cdv A outer s H vs Q E hG hr h => ?_)
  refine ⟨_, hbody cdv A outer s H E hG hr (fun cls d _ H => E cls d H) (takes_of rfl rfl rfl rfl), ?_⟩
  obtain ⟨H0, O0, T, ss, l1, l2, R, hq⟩ := h
  unfold fnOf at hq
  by_cases hc : ss.length = np ∧ ((marks as 0 ss).all fun b => !b.1 || isDat b.2) = true
  · rw [if_pos hc] at hq
    have hst : L2.start N vs = vs.map some ++ List.replicate nl none := by
      unfold L2.start
      rw [hN, l1, Nat.add_sub_cancel_left]
    have z0 : Sl (L2.start N vs) (ss.map some ++ List.replicate nl none) (vs.zip ss) := by rw [hst]; exact Sl.start (l1.trans l2.symm)
    have R1 : Rel K H0 O0 H (vs.zip ss ++ (datsOf vs (marks as 0 ss) ++ T)) := by
      have R2 : Rel K H0 O0 H (datsOf vs (marks as 0 ss) ++ (vs.zip ss ++ T)) := R.dup fun e he => by
        obtain ⟨a, b⟩ := datsOf_mem hc.2 e he
        exact ⟨List.mem_append_left _ a, b⟩
      refine R2.perm ?_
      rw [← List.append_assoc, ← List.append_assoc]
      exact List.perm_append_comm.append_right T
    refine ⟨L2.start N vs, H0, O0, datsOf vs (marks as 0 ss) ++ T, _, Apart.refl _ _, ⟨_, z0, R1⟩, ?_⟩
    -- behind the body
    have key : ∀ {σ' : St} {H' : Hp} {δ' : DS} {A0 : List (V × SV)} {fin : List SV}, Apart as (L2.start N vs) σ' → Ste K H0 O0 σ' H' δ' (A0 ++ (datsOf vs (marks as 0 ss) ++ T)) → fins (marks as 0 ss) δ' = some fin → Rel K H0 O0 H' (A0 ++ (vs.zip fin ++ T)) := fun {σ' H' δ' A0 fin} ap st e => by
      obtain ⟨L, z, R⟩ := st
      refine fins_ok z (by rw [marks_len, l1, l2]) (fun i v s h1 h2 => ?_) e (R.perm ?_)
      · obtain ⟨b1, b2⟩ := marks_get h2
        rw [ap.2 i (fun hm => by
          have : as.contains (0 + i) = true := by rw [Nat.zero_add]; exact List.contains_iff_mem.mpr hm
          rw [← b1] at this; cases this), hst, List.getElem?_append_left (by rw [List.length_map]; exact (List.getElem?_eq_some_iff.mp h1).1), List.getElem?_map, h1]
        rfl
      · have p1 : (L ++ (A0 ++ (datsOf vs (marks as 0 ss) ++ T))).Perm (A0 ++ (L ++ (datsOf vs (marks as 0 ss) ++ T))) := by
          rw [← List.append_assoc, ← List.append_assoc A0]
          exact List.perm_append_comm.append_right _
        refine p1.trans (List.Perm.append_left A0 ?_)
        rw [← List.append_assoc, ← List.append_assoc]
        exact List.perm_append_comm.append_right T
    show Post K (fun cls d _ H => E cls d H) as (L2.start N vs) H0 O0 (datsOf vs (marks as 0 ss) ++ T) { nx := fun _ H' => Q .non H', rt := Q } (m (ss.map some ++ List.replicate nl none))
    cases e : m (ss.map some ++ List.replicate nl none) with
    | bad => rw [e] at hq; exact False.elim hq
    | exn x δ' =>
      rw [e] at hq
      simp only [fnOut] at hq
      cases e2 : fins (marks as 0 ss) δ' with
      | none => simp only [e2] at hq
      | some fin =>
        simp only [e2] at hq
        exact fun cls d σ' H' ap a st => hq.2 cls d H' a (by simpa using key (A0 := []) ap (by simpa using st) e2)
    | ok fl δ' =>
      rw [e] at hq
      cases fl with
      | nx =>
        simp only [fnOut] at hq
        cases e2 : fins (marks as 0 ss) δ' with
        | none => simp only [e2] at hq
        | some fin =>
          simp only [e2] at hq
          exact fun σ' H' ap st => hq.2 .non H' (key (A0 := [(V.non, SV.dat .none)]) ap (st.res (Res.same .non)) e2)
      | bk => simp only [fnOut] at hq
      | ct => simp only [fnOut] at hq
      | rt r =>
        simp only [fnOut] at hq
        cases e2 : fins (marks as 0 ss) δ' with
        | none => simp only [e2] at hq
        | some fin =>
          simp only [e2] at hq
          exact fun v σ' H' ap st => hq.2 v H' (key (A0 := [(v, r)]) ap st e2)
  · rw [if_neg hc] at hq
    exact False.elim hq
theorem cal_fn {x qual : Str} {params : Arguments} {body : List Stmt} {scope : Scope} {f : Addr} {fd : FuncData} {N ps : List Str} {k np nl : Nat} {as : List Nat} {m : M Flw} (F : FunD K x qual params body scope [] [] f fd) (S : FnScope N ps scope) (hps : ps.length = np) (hN : N.length = np + nl)
    (hmg : mg x = some (.ref f)) (hb : Binds K fd ps [])
    (hbody : ∀ (cdv : Value) (A : Around) (outer : List Env) (s : Shared) (H : Hp) (E : XK), A.guards = some [] → Room k (A.deeper (PyProof.Rows.envOfC qual scope s.heap.objs.size f cdv)) → ∀ W : WX, Takes (Bx P w K mg base N qual scope f cdv A outer s H E) W →
      SSs (Bx P w K mg base N qual scope f cdv A outer s H E) W as body m) : CalF P w K mg base (k + 1) x np (fnOf np nl as m) :=
  ⟨⟨f, fd, ps, fnG_fn F S hps hN hbody, hmg, F.kp, hb⟩, fnOf_ar np nl as m⟩
/-- a def of no value stays so, whatever its fuel -/
theorem CalF.mono {j k : Nat} {x : Str} {np : Nat} {F : FN} (c : CalF P w K mg base j x np F) (h : j ≤ k) : CalF P w K mg base k x np F := by
  obtain ⟨⟨f, fd, ps, ok, r⟩, ar⟩ := c
  exact ⟨⟨f, fd, ps, ⟨ok.size, fun A outer s H args us vs Q E hG hr => ok.go A outer s H args us vs Q E hG (hr.mono h)⟩, r⟩, ar⟩
end
end Ev

/-! D12: built-in functions by values. -/
namespace Ev
open PySem L2

def gLen : PyData → Option SV
  | .str z => if z.length ≤ sizeLine then some (.dat (.int z.length)) else none
  | .list ds => some (.dat (.int ds.length))
  | .tuple ds => some (.dat (.int ds.length))
  | _ => none
def gInt : PyData → Option SV
  | .int i => some (.dat (.int i))
  | .bool b => some (.dat (.int (if b then 1 else 0)))
  | _ => none
def gAbs : PyData → Option SV
  | .int i => some (.dat (.int (if i < 0 then -i else i)))
  | _ => none
def gMax : PyData → PyData → Option SV
  | .int i, .int j => some (.dat (.int (if j > i then j else i)))
  | _, _ => none
def gMin : PyData → PyData → Option SV
  | .int i, .int j => some (.dat (.int (if j < i then j else i)))
  | _, _ => none
def bools : List PyData → Option (List Bool)
  | [] => some []
  | .bool b :: ds => (bools ds).map (b :: ·)
  | _ => none
def txts : List PyData → Option (List Str)
  | [] => some []
  | .str b :: ds => (txts ds).map (b :: ·)
  | _ => none
def gAll : PyData → Option SV
  | .list ds => (bools ds).map fun bs => .dat (.bool (bs.all id))
  | _ => none
def gAny : PyData → Option SV
  | .list ds => (bools ds).map fun bs => .dat (.bool (bs.any id))
  | _ => none
def gListOf : PyData → Option SV
  | .list ds => some (.lst ds)
  | .tuple ds => some (.lst ds)
  | _ => none
def gTupOf : PyData → Option SV
  | .list ds => some (.dat (.tuple ds))
  | .tuple ds => some (.dat (.tuple ds))
  | _ => none

def BR (X : Cx) (f : Value) (F : List PyData → Option SV) : Prop := CallR X f (rN X.K F)
section
variable {X : Cx} {W : WX} {pos p : Pos}
theorem bools_vs {K : PySem.W.Frag} {H : Hp} : ∀ {ds : List PyData} {vs : List V} {bs : List Bool}, IsAll K H vs ds → bools ds = some bs → vs = bs.map V.bl
  | [], _, bs, .nil, h => by cases h; rfl
  | d :: ds, _, bs, .cons a t, h => by
    cases d with
    | bool b =>
      obtain ⟨bs', e, rfl⟩ := Option.map_eq_some_iff.mp (show (bools ds).map (b :: ·) = some bs from h)
      cases a
      rw [bools_vs t e]; rfl
    | _ => cases h
theorem txts_vs {K : PySem.W.Frag} {H : Hp} : ∀ {ds : List PyData} {vs : List V} {bs : List Str}, IsAll K H vs ds → txts ds = some bs → vs = bs.map V.str
  | [], _, bs, .nil, h => by cases h; rfl
  | d :: ds, _, bs, .cons a t, h => by
    cases d with
    | str b =>
      obtain ⟨bs', e, rfl⟩ := Option.map_eq_some_iff.mp (show (txts ds).map (b :: ·) = some bs from h)
      cases a
      rw [txts_vs t e]; rfl
    | _ => cases h
theorem Opn.sql {K : PySem.W.Frag} {H : Hp} {v : V} {ds : List PyData} (h : Opn K H v (.list ds)) : ∃ a vs, v = .ref a ∧ SqL K H a vs ∧ IsAll K H vs ds := by
  obtain ⟨a, vs, e, r, t⟩ := h.list
  exact ⟨a, vs, e, .inl r, t⟩
theorem br_len : BR X (.builtin "len") (g1 gLen) := by
  intro pins s σ H xs us Q I r h
  obtain ⟨ds, sv, po, e, q⟩ := h
  unfold g1 at e
  split at e
  · cases po with | cons a t => cases t; exact (by
      unfold gLen at e
      split at e
      · split at e
        · cases e
          cases a.str
          exact call_len_str pins s σ H _ us Q I r ⟨_, rfl, by assumption, q _ _ (Res.same (.int _))⟩
        · cases e
      · cases e
        obtain ⟨a1, vs, rfl, h1, t1⟩ := a.sql
        exact call_len_seq pins s σ H _ us Q I r ⟨_, _, rfl, .inl h1, q _ _ (by rw [t1.length]; exact Res.same (.int _))⟩
      · cases e
        obtain ⟨a1, vs, rfl, h1, t1⟩ := a.tuple
        exact call_len_seq pins s σ H _ us Q I r ⟨_, _, rfl, .inr h1, q _ _ (by rw [t1.length]; exact Res.same (.int _))⟩
      · cases e)
  · cases e
theorem br_int : BR X (.type "int") (g1 gInt) := by
  intro pins s σ H xs us Q I r h
  obtain ⟨ds, sv, po, e, q⟩ := h
  unfold g1 at e
  split at e
  · cases po with | cons a t => cases t; exact (by
      unfold gInt at e
      split at e
      · cases e
        cases a.int
        exact call_int1 pins s σ H _ us Q I r (.inl ⟨_, rfl, q _ _ (Res.same (.int _))⟩)
      · cases e
        cases a with
        | dat a => cases a; exact call_int1 pins s σ H _ us Q I r (.inr ⟨_, rfl, q _ _ (Res.same (.int _))⟩)
      · cases e)
  · cases e
theorem br_abs : BR X (.builtin "abs") (g1 gAbs) := by
  intro pins s σ H xs us Q I r h
  obtain ⟨ds, sv, po, e, q⟩ := h
  unfold g1 at e
  split at e
  · cases po with | cons a t => cases t; exact (by
      unfold gAbs at e
      split at e
      · cases e
        cases a.int
        exact call_abs pins s σ H _ us Q I r ⟨_, rfl, q _ _ (Res.same (.int _))⟩
      · cases e)
  · cases e
theorem br_max (hc : X.calm = true) : BR X (.builtin "max") (g2 gMax) := by
  intro pins s σ H xs us Q I r h
  obtain ⟨ds, sv, po, e, q⟩ := h
  unfold g2 at e
  split at e
  · cases po with | cons a t => cases t with | cons b t => cases t; exact (by
      unfold gMax at e
      split at e
      · cases e
        cases a.int; cases b.int
        exact call_max2 hc pins s σ H _ us Q I r ⟨_, _, rfl, q _ _ (Res.same (.int _))⟩
      · cases e)
  · cases e
theorem br_min (hc : X.calm = true) : BR X (.builtin "min") (g2 gMin) := by
  intro pins s σ H xs us Q I r h
  obtain ⟨ds, sv, po, e, q⟩ := h
  unfold g2 at e
  split at e
  · cases po with | cons a t => cases t with | cons b t => cases t; exact (by
      unfold gMin at e
      split at e
      · cases e
        cases a.int; cases b.int
        exact call_min2 hc pins s σ H _ us Q I r ⟨_, _, rfl, q _ _ (Res.same (.int _))⟩
      · cases e)
  · cases e
theorem br_all (hc : X.calm = true) : BR X (.builtin "all") (g1 gAll) := by
  intro pins s σ H xs us Q I r h
  obtain ⟨ds, sv, po, e, q⟩ := h
  unfold g1 at e
  split at e
  · cases po with | cons a t => cases t; exact (by
      unfold gAll at e
      split at e
      · obtain ⟨bs, e2, rfl⟩ := Option.map_eq_some_iff.mp e
        obtain ⟨a1, vs, rfl, h1, t1⟩ := a.sql
        rw [bools_vs t1 e2] at h1
        exact cr_all hc pins s σ H _ us Q I r ⟨_, _, rfl, h1, q _ _ (Res.same (.bl _))⟩
      · cases e)
  · cases e
theorem br_any (hc : X.calm = true) : BR X (.builtin "any") (g1 gAny) := by
  intro pins s σ H xs us Q I r h
  obtain ⟨ds, sv, po, e, q⟩ := h
  unfold g1 at e
  split at e
  · cases po with | cons a t => cases t; exact (by
      unfold gAny at e
      split at e
      · obtain ⟨bs, e2, rfl⟩ := Option.map_eq_some_iff.mp e
        obtain ⟨a1, vs, rfl, h1, t1⟩ := a.sql
        rw [bools_vs t1 e2] at h1
        exact cr_any hc pins s σ H _ us Q I r ⟨_, _, rfl, h1, q _ _ (Res.same (.bl _))⟩
      · cases e)
  · cases e
theorem br_list : BR X (.type "list") (g1 gListOf) := by
  intro pins s σ H xs us Q I r h
  obtain ⟨ds, sv, po, e, q⟩ := h
  unfold g1 at e
  split at e
  · cases po with | cons a t => cases t; exact (by
      unfold gListOf at e
      split at e
      · cases e
        obtain ⟨a1, vs, rfl, h1, t1⟩ := a.sql
        exact call_list_of pins s σ H _ us Q I r ⟨_, _, rfl, .inl h1, fun l hl => q _ _ (Res.lst hl t1)⟩
      · cases e
        obtain ⟨a1, vs, rfl, h1, t1⟩ := a.tuple
        exact call_list_of pins s σ H _ us Q I r ⟨_, _, rfl, .inr h1, fun l hl => q _ _ (Res.lst hl t1)⟩
      · cases e)
  · cases e
theorem br_tuple : BR X (.type "tuple") (g1 gTupOf) := by
  intro pins s σ H xs us Q I r h
  obtain ⟨ds, sv, po, e, q⟩ := h
  unfold g1 at e
  split at e
  · cases po with | cons a t => cases t; exact (by
      unfold gTupOf at e
      split at e
      · cases e
        obtain ⟨a1, vs, rfl, h1, t1⟩ := a.sql
        exact call_tuple_of pins s σ H _ us Q I r ⟨_, _, rfl, .inl ⟨h1, fun l hl => q _ _ (Res.tup hl t1)⟩⟩
      · cases e
        obtain ⟨a1, vs, rfl, h1, t1⟩ := a.tuple
        exact call_tuple_of pins s σ H _ us Q I r ⟨_, _, rfl, .inr ⟨h1, q _ _ (Res.same (.tup h1 t1))⟩⟩
      · cases e)
  · cases e
/-! ### their calls -/
theorem se_callB {x : Str} {id : String} {f : List PyData → Option SV} {e : Expr} {es : List Expr} {m : M (List Opd)} (hc : BR X (.builtin id) f) (hg : Gl X x) (hm : X.mg x = none) (hv : bootBuiltins x = some (.builtin id)) (hp : plainE e = true) (ha : SA X W (e :: es) m)
    (hn : x ≠ "__name__") (hdb : (x == ("__debug__" : Str)) = false) (hpl : (backTo pos (starEach es X.env)).any (·.1) = false) : SE X W (.Call (.Name x p) (e :: es) [] pos) (bnd m (opN f)) :=
  (pe_callB hc hg hm hv ha hn hdb (star_plain hp es X.env) hpl).imp fun _ _ _ h => eOp_t h
theorem se_callTy {x : Str} {T : String} {f : List PyData → Option SV} {e : Expr} {es : List Expr} {m : M (List Opd)} (hc : BR X (.type T) f) (hg : Gl X x) (hm : X.mg x = none) (hv : bootBuiltins x = some (.type T)) (hp : plainE e = true) (ha : SA X W (e :: es) m)
    (hn : x ≠ "__name__") (hdb : (x == ("__debug__" : Str)) = false) (hpl : (backTo pos (starEach es X.env)).any (·.1) = false) : SE X W (.Call (.Name x p) (e :: es) [] pos) (bnd m (opN f)) :=
  (pe_callTy hc hg hm hv ha hn hdb (star_plain hp es X.env) hpl).imp fun _ _ _ h => eOp_t h
end
end Ev

/-! D13: from the promise of the def `law` to the row. -/
namespace Ev
open PySem PySem.Spec L2
open PyProof.Rows hiding St

/-- the law's call, over an abstract heap that tracks at most the script -/
theorem go_over {P : Program} {w : World} {K : PySem.W.Frag} {mg mb : Str → Option Value} {k : Nat} {fa a : Addr} {fd : FuncData} {x : Str} {F : FN} {s : Shared} {vs : List Value} {ns : List Int} {fv : SV} (KX : K.In s.heap) (hns : s.heap.Ns mainGlobals mg) (hb : s.heap.Ns builtinsNs mb)
    (hbb : ∀ x : Str, x ≠ "__name__" → mb x = bootBuiltins x) (hlim : s.heap.NoLimit) (hg : s.gens = #[]) (ha : s.heap.get? a = some { cls := .type "list", data := .seq vs.toArray }) (hr : Room k callerA)
    (G : ∀ base : Heap, K.In base → base.Ns mainGlobals mg → FnG P w K mg base k fa fd [x] (spF K 1 F)) (hbind : ∀ (s : Shared) (u : Value), BindsTo s fd ⟨[u], []⟩ [(x, u)]) (hF : F [.scr ns] = .ret (.dat (.bool true)) [fv])
    (H : Hp) (only : ∀ b, H b = none ∨ ∃ o xs, H b = some (.frz o (.lst xs))) (hS : SqF K H a (ns.map V.int)) (hok : HOk P w H s.heap) (hA : ∀ b, H b ≠ none → b = a) (hK : H a ≠ none → K.lookup a = none) :
    codeAny (model P w) callerA (.call (.ref fa) ⟨[.ref a], []⟩) (fun r s' => r = .ok (.ret (.bool true)) ∧ OldK s.heap s'.heap ∧ s'.os = s.os ∧ AllBare s'.gens) s := by
  have out : ∀ {b : Addr} {o : Obj}, s.heap.get? b = some o → H b = none → (hidT s.heap H).get? b = some o := fun e n => hidT_get e n
  have free : ∀ {b : Addr} {o : Obj} {es : Array DictEntry} {ep : Nat}, s.heap.get? b = some o → o.data = .dict es ep → H b = none := by
    intro b o es ep e d
    refine Classical.byContradiction fun q => ?_
    rw [hA b q, ha] at e
    cases e
    cases d
  have nsK : ∀ {b : Addr} {m : Str → Option Value}, s.heap.Ns b m → (hidT s.heap H).Ns b m := by
    rintro b m ⟨o, es, ep, e, d, r⟩
    exact ⟨o, es, ep, out e (free e d), d, r⟩
  have inK : K.In (hidT s.heap H) := by
    intro b o e
    refine out (KX b o e) (Classical.byContradiction fun q => ?_)
    have eb := hA b q
    subst eb
    rw [hK q] at e
    cases e
  obtain ⟨mc, c1, c2⟩ := hlim
  have e0 : Env0 P w K mg (hidT s.heap H) callerA [] s H :=
    { frames := rfl, mod := ⟨inK, nsK hns, ⟨mb, nsK hb, hbb⟩, ⟨mc, nsK c1, c2⟩⟩, bs := fun _ _ e => of_hidT e, bsz := Nat.le_of_eq (hidT_size _ _), funs := trivial, frf := (fun b hb => absurd hb (by simp [frs])), hok := hok, bare := .of_eq hg }
  have wish : spF K 1 F [.ref a] H (fun v _ => v = .bl true) fun _ _ _ => False := by
    refine ⟨H, [], [], [.scr ns], rfl, rfl, ⟨⟨[], by simpa using Ents.cons (Ent.scr hS) .nil, List.nodup_nil, fun a ha => by cases ha⟩, Kp.refl _ _⟩, ?_⟩
    rw [hF]
    refine ⟨?_, fun v H' R => ?_⟩
    · rfl
    · obtain ⟨o, en⟩ := R.ent (e := (v, SV.dat (.bool true))) (by simp)
      cases en with | dat i => cases i; rfl
  refine codeAny_mono ((G _ inK (nsK hns)).go callerA [] s H ⟨[.ref a], []⟩ [.ref a] [.ref a] _ _ rfl hr e0 (hbind s (.ref a)) (.cons rfl .nil) wish) fun r s' h => ?_
  rcases r with x | fl
  · obtain ⟨_, _, _, _, _, _, _, _, _, _, _, _, h⟩ := h
    exact h.elim
  · rcases fl with _ | _ | _ | u
    · exact False.elim h
    · exact False.elim h
    · exact False.elim h
    · obtain ⟨v, H', os, bare, un, hok', rv, q⟩ := h
      subst q
      cases (show u = Value.bool true from rv)
      refine ⟨rfl, OldK.of_keep fun b o e => ?_, os, bare⟩
      rcases only b with n | ⟨ob, xs, z⟩
      · exact un.keep b o e n (fun z => by cases z) (by simp)
      · obtain ⟨e1, _⟩ := hok b _ z
        obtain ⟨e2, _⟩ := hok' b _ (un.frzs b ob _ z)
        rw [e] at e1
        cases e1
        exact e2
/-- THE END: the law is true of every script -/
theorem walk_ev {l : PySem.W.OpenLaw} {n k : Nat} {q : Program} {loose : List Str} {XP : (Str → Option Value) → Heap → Prop} {YP : World → Heap → Prop} {d : DefRec} {x : Str} {F : FN} (hn : l.most = some n) (hn2 : n ≤ sizeLine) (hdf : d.params.defaults = []) (hr : Room k callerA) (hF : ∀ ns : List Int, ns.length ≤ n → ∃ v, F [.scr ns] = .ret (.dat (.bool true)) [v])
    (hK : ∀ (w : World) (mg : Str → Option Value) (fa : Addr) (h : Heap), YP w h → h.Ns mainGlobals mg → mg d.name = some (.ref fa) → ∃ (K : PySem.W.Frag) (fd : FuncData), K.In h ∧ (∀ (s : Shared) (u : Value), BindsTo s fd ⟨[u], []⟩ [(x, u)]) ∧
      ∀ base : Heap, K.In base → base.Ns mainGlobals mg → FnG l.prog w K mg base k fa fd [x] (spF K 1 F)) : PySem.W.WalkO q loose XP YP l.row.toRowW d [] (fun f vs => PySem.call f vs) := by
  refine Att.attach_call hn hdf fun w s₀ s₁ mg mb fa o pm cd doc a vs ns G Y ho hd hcd hmg ha hi hl hg => ?_
  obtain ⟨K, fd, KX, hb, hG⟩ := hK w mg fa _ Y G.T.g hmg
  obtain ⟨fin, e⟩ := hF ns hl
  have rv := vals_ints hi
  have z : ns.length ≤ sizeLine := Nat.le_trans hl hn2
  have go := go_over KX G.T.g G.T.b G.T.builtins G.T.nolimit hg ha hr hG hb e
  cases hk : K.lookup a with
  | some o =>
    have e := KX a o hk
    rw [ha] at e
    cases e
    exact go (fun _ => none) (fun _ => .inl rfl) (.inr ⟨_, vs.toArray, _, hk, rfl, rfl, rfl, by rw [List.size_toArray, hi.length]; exact z, by simpa using rv⟩) (fun b u q => by cases q) (fun b q => absurd rfl q) fun q => absurd rfl q
  | none =>
    refine go (fun b => if b = a then some (.frz { cls := .type "list", data := .seq vs.toArray } (.lst (ns.map V.int))) else none) (fun b => ?_) (.inl ⟨{ cls := .type "list", data := .seq vs.toArray }, by simp⟩) (fun b u q => ?_) (fun b q => ?_) fun _ => hk
    · by_cases hb : b = a
      · exact .inr ⟨_, _, if_pos hb⟩
      · exact .inl (if_neg hb)
    · by_cases hb : b = a
      · subst hb
        have q := (if_pos rfl).symm.trans q
        cases q
        exact ⟨ha, by rw [List.length_map]; exact z, vs, _, rv, ha⟩
      · cases (if_neg hb).symm.trans q
    · by_cases hb : b = a
      · exact hb
      · exact absurd (if_neg hb) q
end Ev

/-! D14: the drawing's state: what reads and writes it; the script. -/
namespace Ev
open PySem PySem.Spec L2
open PyProof.Rows hiding St

def Src.get (S : Src) (f : Str) : Option Int := if f = "left" then some S.left else if f = "mixed" then some S.mixed else if f = "turn" then some S.turn else none
def Src.put (S : Src) (f : Str) (n : Int) : Option Src := if f = "left" then some { S with left := n } else if f = "mixed" then some { S with mixed := n } else if f = "turn" then some { S with turn := n } else none
def srcAt (δ : DS) (i : Nat) : Option Src := match at? δ i with
  | some (.src S) => some S
  | _ => none
def eSrcGet (f : Str) (i : Nat) : M Opd := fun δ => match (srcAt δ i).bind (·.get f) with
  | some n => .ok (.val (.dat (.int n))) δ
  | none => .bad
def eSrcLen (i : Nat) : M Opd := fun δ => match srcAt δ i with
  | some S => .ok (.val (.dat (.int S.cells.length))) δ
  | none => .bad
def eSrcPop (i : Nat) : M Opd := fun δ => match srcAt δ i with
  | some S => match S.cells[S.cells.length - 1]? with
    | some n => .ok (.val (.dat (.int n))) (δ.set i (some (.src { S with cells := S.cells.dropLast })))
    | none => .bad
  | none => .bad
def sSrcSet (f : Str) (i : Nat) (m : M Opd) : M Flw := bnd m fun o δ => match o with
  | .val (.dat (.int n)) => match (srcAt δ i).bind (·.put f n) with
    | some S => .ok .nx (δ.set i (some (.src S)))
    | none => .bad
  | _ => .bad
section
variable {K : PySem.W.Frag} {H0 H H' : Hp} {O0 : List Addr} {σ : St} {δ δ' : DS} {T T' : List (V × SV)} {v : V} {s : SV} {d : PyData}
def kvsS (S : Src) (c : Addr) : List (Key × V) := [(.inr "cells", .ref c), (.inr "left", .int S.left), (.inr "mixed", .int S.mixed), (.inr "turn", .int S.turn)]
theorem srcAt_eq {i : Nat} {S : Src} (h : srcAt δ i = some S) : at? δ i = some (.src S) := by
  unfold srcAt at h
  split at h
  · cases h; assumption
  · cases h
theorem Ste.srcAt {i : Nat} {S : Src} (st : Ste K H0 O0 σ H δ T) (h : srcAt δ i = some S) : ∃ a c, σ[i]? = some (some (.ref a)) ∧ H a = some (.dK (kvsS S c)) ∧ H c = some (.lst (S.cells.map V.int)) := by
  obtain ⟨v, e, o, en⟩ := st.slot (srcAt_eq h)
  cases en with
  | src h1 h2 => exact ⟨_, _, e, h1, h2⟩
theorem sk : (("left" : Str) ≠ "cells") ∧ (("mixed" : Str) ≠ "cells") ∧ (("turn" : Str) ≠ "cells") ∧ (("mixed" : Str) ≠ "left") ∧ (("turn" : Str) ≠ "left") ∧ (("turn" : Str) ≠ "mixed") := by decide +kernel
theorem valV_get {S : Src} {c : Addr} {f : Str} {n : Int} (h : S.get f = some n) : valV (kvsS S c) (.inr f : Key) = some (.int n) := by
  obtain ⟨k1, k2, k3, k4, k5, k6⟩ := sk
  unfold Src.get at h
  split at h
  · rename_i e; subst e; cases h
    simp [kvsS, valV, k1, k1.symm]
  · split at h
    · rename_i e; subst e; cases h
      simp [kvsS, valV, k1, k1.symm, k2, k2.symm, k4, k4.symm]
    · split at h
      · rename_i e; subst e; cases h
        simp [kvsS, valV, k1, k1.symm, k2, k2.symm, k3, k3.symm, k4, k4.symm, k5, k5.symm, k6, k6.symm]
      · cases h
theorem putK_put {S S' : Src} {c : Addr} {f : Str} {n : Int} (h : S.put f n = some S') : putK (kvsS S c) (.inr f : Key) (.int n) = kvsS S' c ∧ S'.cells = S.cells := by
  obtain ⟨k1, k2, k3, k4, k5, k6⟩ := sk
  unfold Src.put at h
  split at h
  · rename_i e; subst e; cases h
    refine ⟨?_, rfl⟩
    simp [kvsS, putK, k1, k1.symm, k2, k2.symm, k3, k3.symm, k4, k4.symm, k5, k5.symm, k6, k6.symm]
  · split at h
    · rename_i e; subst e; cases h
      refine ⟨?_, rfl⟩
      simp [kvsS, putK, k1, k1.symm, k2, k2.symm, k3, k3.symm, k4, k4.symm, k5, k5.symm, k6, k6.symm]
    · split at h
      · rename_i e; subst e; cases h
        refine ⟨?_, rfl⟩
        simp [kvsS, putK, k1, k1.symm, k2, k2.symm, k3, k3.symm, k4, k4.symm, k5, k5.symm, k6, k6.symm]
      · cases h
/-- a thing in a slot is exchanged -/
theorem Ste.swapSlot {i : Nat} {s s' : SV} {v : V} {H' : Hp} (st : Ste K H0 O0 σ H δ T) (e : at? δ i = some s) (ev : σ[i]? = some (some v)) (k : ∀ oc, Ent K H (v, s) oc → oc.Nodup → ∃ on, Ent K H' (v, s') on ∧ on.Nodup ∧ (∀ a ∈ on, a ∈ oc ∨ H a = none) ∧ Kp oc H H') :
    Ste K H0 O0 σ H' (δ.set i (some s')) T := by
  obtain ⟨L, z, R⟩ := st
  obtain ⟨v', L1, L2, rfl, e2, f, _⟩ := z.get e
  have q : v' = v := by rw [ev] at e2; cases e2; rfl
  subst q
  refine ⟨_, f s', ?_⟩
  have p : ∀ x : V × SV, (L1 ++ x :: L2 ++ T).Perm ([x] ++ (L1 ++ L2 ++ T)) := fun x => by
    rw [List.append_assoc, List.append_assoc]
    exact List.perm_middle
  refine (Rel.step (R.perm (p _)) (Ln := [(v', s')]) fun oc hc nd => ?_).perm (p _).symm
  cases hc with
  | cons c n =>
    cases n
    rw [List.append_nil] at nd ⊢
    obtain ⟨on, h1, h2, h3, h4⟩ := k _ c nd
    exact ⟨on, by simpa using Ents.cons h1 .nil, h2, h3, h4⟩
theorem Ste.srcPut {i : Nat} {S S' : Src} {a c : Addr} (st : Ste K H0 O0 σ H δ T) (h : Ev.srcAt δ i = some S) (e : σ[i]? = some (some (.ref a))) (ha : H a = some (.dK (kvsS S c))) (hc : H c = some (.lst (S.cells.map V.int))) (hs : S'.cells = S.cells) :
    Ste K H0 O0 σ (upd H a (.dK (kvsS S' c))) (δ.set i (some (.src S'))) T := st.swapSlot (srcAt_eq h) e fun oc en nd => by
  cases en with
  | @src _ c' _ h1 h2 =>
    have q : c' = c := by rw [ha] at h1; cases h1; rfl
    subst q
    have ne : c' ≠ a := by rintro rfl; rw [ha] at hc; cases hc
    refine ⟨[a, c'], .src upd_same (by rw [upd_ne ne, hs]; exact hc), nd, fun b hb => .inl hb, Kp.at (by simp)⟩
theorem Ste.srcCut {i : Nat} {S : Src} {a c : Addr} {cs : List Int} (st : Ste K H0 O0 σ H δ T) (h : Ev.srcAt δ i = some S) (e : σ[i]? = some (some (.ref a))) (ha : H a = some (.dK (kvsS S c))) (hc : H c = some (.lst (S.cells.map V.int))) :
    Ste K H0 O0 σ (upd H c (.lst (cs.map V.int))) (δ.set i (some (.src { S with cells := cs }))) T := st.swapSlot (srcAt_eq h) e fun oc en nd => by
  cases en with
  | @src _ c' _ h1 h2 =>
    have q : c' = c := by rw [ha] at h1; cases h1; rfl
    subst q
    have ne : a ≠ c' := by rintro rfl; rw [ha] at hc; cases hc
    refine ⟨[a, c'], .src (by rw [upd_ne ne]; exact ha) upd_same, nd, fun b hb => .inl hb, Kp.at (by simp)⟩
end
section
variable {X : Cx} {W : WX} {as : List Nat} {pos p p2 p3 p4 apos cpos : Pos}
theorem Vis.n {X : Cx} (hu : X.A.units + 64 < cLine) : X.A.units + 1 < cLine := by omega
theorem noSl_str {x : Str} {k : Nat} {p : Pos} : NoSl (.Constant (.str x) k p) := fun _ _ => rfl
theorem se_srcGet {i : Nat} {x f : Str} {k : Nat} (hu : X.A.units + 64 < cLine) (hN : X.N[i]? = some x) (hv : Vis X.env.scope x) (hd : (x == ("__debug__" : Str)) = false) (hcd : (x == ("__classdict__" : Str)) = false) : SE X W (.Subscript (.Name x p) (.Constant (.str f) k p2) pos) (eSrcGet f i) :=
  (pe_dget (Vis.n hu) (pe_var hN hv hd hcd) pe_str noSl_str).imp fun σ H Q h => by
    obtain ⟨H0, O0, T, δ, st, hm⟩ := h
    unfold eSrcGet at hm
    cases e : (srcAt δ i).bind (·.get f) with
    | none => simp only [e] at hm
    | some n =>
      simp only [e] at hm
      obtain ⟨S, e1, e2⟩ := Option.bind_eq_some_iff.mp e
      obtain ⟨a, c, ev, ha, hc⟩ := st.srcAt e1
      exact ⟨_, ev, a, _, rfl, .inl ⟨_, .inr f, .inl ha, rfl, (valV_get e2).symm⟩, hm _ H True.intro (st.res (Res.same (.int n)))⟩
theorem valV_cells {S : Src} {c : Addr} : valV (kvsS S c) (.inr "cells" : Key) = some (.ref c) := by simp [kvsS, valV]
theorem se_srcLen {i : Nat} {x l : Str} {k : Nat} (hu : X.A.units + 64 < cLine) (hN : X.N[i]? = some x) (hv : Vis X.env.scope x) (hd : (x == ("__debug__" : Str)) = false) (hcd : (x == ("__classdict__" : Str)) = false) (hl : l = "len") (hg : Gl X l) (hm : X.mg l = none) :
    SE X W (.Call (.Name l p4) [.Subscript (.Name x p) (.Constant (.str "cells") k p2) p3] [] pos) (eSrcLen i) := by
  subst hl
  refine (pe_callB call_len_seq hg hm boot_len (pa_cons (pe_dget (Vis.n hu) (pe_var hN hv hd hcd) pe_str noSl_str) pa_nil)).imp fun σ H Q h => ?_
  obtain ⟨H0, O0, T, δ, st, hm⟩ := h
  unfold eSrcLen at hm
  cases e : srcAt δ i with
  | none => simp only [e] at hm
  | some S =>
    simp only [e] at hm
    obtain ⟨a, c, ev, ha, hc⟩ := st.srcAt e
    refine ⟨_, ev, a, _, rfl, .inl ⟨_, .inr "cells", .inl ha, rfl, valV_cells.symm⟩, c, S.cells.map V.int, rfl, .inl (.inl (.inl hc)), ?_⟩
    rw [List.length_map]
    exact hm _ H True.intro (st.res (Res.same (.int _)))
theorem se_srcPop {i : Nat} {x : Str} {k : Nat} (hu : X.A.units + 64 < cLine) (hN : X.N[i]? = some x) (hv : Vis X.env.scope x) (hd : (x == ("__debug__" : Str)) = false) (hcd : (x == ("__classdict__" : Str)) = false)
    (hbase : attributeBase (.Subscript (.Name x p) (.Constant (.str "cells") k p2) p3) "pop" X.env (eval (.Subscript (.Name x p) (.Constant (.str "cells") k p2) p3) X.env) = eval (.Subscript (.Name x p) (.Constant (.str "cells") k p2) p3) X.env) (hline : (apos.endLine == cpos.line) = true) :
    SE X W (.Call (.Attribute (.Subscript (.Name x p) (.Constant (.str "cells") k p2) p3) "pop" apos) [] [] cpos) (eSrcPop i) :=
  (pe_bm0 PySem.F.plainAttrs_list PySem.F.slot_list_pop PySem.F.type_list_pop mt_pop (pe_dget (Vis.n hu) (pe_var hN hv hd hcd) pe_str noSl_str) hbase hline).imp fun σ H Q h => by
    obtain ⟨H0, O0, T, δ, st, hm⟩ := h
    unfold eSrcPop at hm
    cases e : srcAt δ i with
    | none => simp only [e] at hm
    | some S =>
      simp only [e] at hm
      cases e2 : S.cells[S.cells.length - 1]? with
      | none => simp only [e2] at hm
      | some n =>
        simp only [e2] at hm
        obtain ⟨a, c, ev, ha, hc⟩ := st.srcAt e
        refine ⟨_, ev, a, _, rfl, .inl ⟨_, .inr "cells", .inl ha, rfl, valV_cells.symm⟩, .inl ⟨rfl, _, .inl (.inl hc)⟩, c, S.cells.map V.int, .int n, rfl, rfl, hc, ?_, ?_⟩
        · rw [List.length_map, List.getElem?_map, e2]; rfl
        · rw [← List.map_dropLast]
          exact hm _ _ True.intro ((st.srcCut e ev ha hc).res (Res.same (.int n)))
theorem ss_srcSet {i : Nat} {x f : Str} {k : Nat} {e : Expr} {m : M Opd} (hu : X.A.units + 64 < cLine) (hN : X.N[i]? = some x) (hv : Vis X.env.scope x) (hd : (x == ("__debug__" : Str)) = false) (hcd : (x == ("__classdict__" : Str)) = false) (he : SE X W e m)
    (hs : swapsWith e (some (.Subscript (.Name x p) (.Constant (.str f) k p2) p3)) pos.line X.env = pure false) : SS X W as (.Assign [.Subscript (.Name x p) (.Constant (.str f) k p2) p3] e pos) (sSrcSet f i m) :=
  (ps_dput (Vis.n hu) (pe_var hN hv hd hcd) pe_str he hs).imp fun D σ H h => by
    obtain ⟨σ0, H0, O0, T, δ, ap, st, hm⟩ := h
    refine ⟨H0, O0, T, δ, st, ?_⟩
    unfold sSrcSet bnd at hm
    cases e1 : m δ with
    | bad => simp only [e1] at hm; exact hm
    | exn y δ1 => simp only [e1] at hm; exact fun cls d H' a b => hm cls d σ H' ap a b
    | ok o δ1 =>
      simp only [e1] at hm
      intro v H1 ov st1
      cases o with
      | slot j => exact False.elim hm
      | val s =>
        cases s with
        | dat d =>
          cases d with
          | int n =>
            simp only at hm
            cases e2 : (srcAt δ1 i).bind (·.put f n) with
            | none => simp only [e2] at hm; exact False.elim hm
            | some S' =>
              simp only [e2] at hm
              obtain ⟨S, e3, e4⟩ := Option.bind_eq_some_iff.mp e2
              obtain ⟨a, c, ev, ha, hc⟩ := st1.srcAt e3
              obtain ⟨p1, p2⟩ := putK_put (c := c) e4
              obtain ⟨oo, en⟩ := st1.ent (e := (v, SV.dat (.int n))) (by simp [tmp])
              cases en with
              | dat i =>
                cases i
                refine ⟨_, ev, a, _, rfl, .inl ⟨_, .inr f, ha, rfl, by show 4 < sizeLine; rw [sizeLine_eq]; omega, rfl⟩, ?_⟩
                rw [p1]
                exact hm σ _ ap (Ste.drop1 (st1.srcPut e3 ev ha hc p2))
          | _ => exact False.elim hm
        | _ => exact False.elim hm
end
end Ev

/-! D15: types asked for, ranges, the script walked, comprehensions, augmented assignments, rows of names, methods. -/
namespace Ev
open PySem PySem.Spec L2
open PyProof.Rows hiding St

/-! ### isinstance -/
def tyN : PyData → String
  | .none => "NoneType"
  | .bool _ => "bool"
  | .int _ => "int"
  | .str _ => "str"
  | .list _ => "list"
  | .tuple _ => "tuple"
  | .dict _ => "dict"
def isT (T : String) (d : PyData) : Bool := tyN d == T || (T == "int" && tyN d == "bool")
def tys : List String := ["NoneType", "bool", "int", "str", "list", "tuple", "dict"]
theorem kitB_tys : ∀ a ∈ tys, ∀ b ∈ ["bool", "int", "str", "list", "tuple", "dict"], kitB a b = some (a == b || (b == "int" && a == "bool")) := by decide +kernel
theorem tyN_mem (d : PyData) : tyN d ∈ tys := by cases d <;> simp [tyN, tys]
theorem isT_kit {d : PyData} {T : String} (h : T ∈ ["bool", "int", "str", "list", "tuple", "dict"]) : kitB (tyN d) T = some (isT T d) := kitB_tys _ (tyN_mem d) _ h
def gIsi (T : String) (d : PyData) : Option SV := some (.dat (.bool (isT T d)))
section
variable {K : PySem.W.Frag} {H : Hp} {v : V} {d : PyData}
theorem sqt_ty {a : Addr} {xs : List V} (h : SqT K H a xs) : TyX K H (.ref a) (.type "tuple") := by
  rcases h with (h | ⟨o, h⟩) | ⟨o, its, n, h1, h2, _⟩
  · exact .base (.tup h)
  · exact .fTuple h
  · exact .kTuple h1 h2
end
/-- isinstance(x, T) by data -/
def rTyD (K : PySem.W.Frag) (T : String) : List V → Hp → VK → Prop := fun xs H Q => ∃ x d, xs = [x, .ty T] ∧ Opn K H x d ∧ Q (.bl (isT T d)) H
section
variable {X : Cx} {W : WX} {as : List Nat} {pos p p2 p3 p4 apos cpos : Pos}
theorem pe_tyN {x : Str} {T : String} (hg : Gl X x) (hm : X.mg x = none) (hv : bootBuiltins x = some (.type T)) (hn : x ≠ "__name__") (hdb : (x == ("__debug__" : Str)) = false) : PE X (.Name x p) (tC (.ty T)) :=
  ⟨fun pins s σ H Q I h => ld_blt I hg hm hv ⟨.ty T, H, I, rfl, h⟩ hn hdb⟩
theorem call_tyD {T : String} (hT : T ∈ ["bool", "int", "str", "list", "tuple", "dict"]) : CallR X (.builtin "isinstance") (rTyD X.K T) := by
  intro pins s σ H xs us Q I r h
  obtain ⟨x, d, rfl, a, q⟩ := h
  have via : TyX X.K H x (.type (tyN d)) → wpAny (model X.prog X.w) X.A (call (.builtin "isinstance") us) (EP X pins σ Q) X.xe s := fun ty =>
    call_isi pins s σ H _ us Q I r ⟨x, .ty T, .type (tyN d), .type T, isT T d, rfl, .ty T, ty, kit_ty (isT_kit hT), q⟩
  cases a with
  | dat h =>
    cases h with
    | non => exact via (.base .non)
    | bl b => exact via (.base (.bl b))
    | int i => exact via (.base (.int i))
    | str x => exact via (.base (.str x))
    | tup h _ => exact via (sqt_ty h)
    | lst h _ =>
      cases r with
      | cons r1 r2 =>
        cases r2 with
        | cons r2 r3 =>
          cases r3
          cases r2
          obtain ⟨ob, h⟩ := h
          cases r1
          obtain ⟨h0, _, its, n, _, h1⟩ := (show ObjOk X.prog X.w H s.heap _ (.frz ob (.lst _)) from I.hok _ _ h)
          exact PySem.W.kia_one PySem.W.kitx_list I.kIn ⟨_, h1, rfl⟩ (kit_ty (isT_kit (d := .list []) hT)) (fun z => nomatch z) fun tk => ⟨.bl (isT T (.list [])), H, I.tok tk, rfl, q⟩
    | dic h _ => exact via (.fDict h)
  | lst h _ => exact via (.base (.lst h))
  | dic h _ => exact via (.base (.dK h))
theorem se_isi {x t : Str} {T : String} {e : Expr} {m : M Opd} (hg : Gl X x) (hm : X.mg x = none) (hv : bootBuiltins x = some (.builtin "isinstance")) (hn : x ≠ "__name__") (hdb : (x == ("__debug__" : Str)) = false) (hp : plainE e = true) (he : SE X W e m)
    (hg' : Gl X t) (hm' : X.mg t = none) (hv' : bootBuiltins t = some (.type T)) (hn' : t ≠ "__name__") (hdb' : (t == ("__debug__" : Str)) = false) (hT : T ∈ ["bool", "int", "str", "list", "tuple", "dict"]) :
    SE X W (.Call (.Name x p) [e, .Name t p2] [] pos) (eOp (g1 (gIsi T)) [m]) :=
  (pe_callB (call_tyD hT) hg hm hv (pa_cons he (pa_cons (pe_tyN hg' hm' hv' hn' hdb') pa_nil) (star_plain hp _ _)) hn hdb (star_plain hp _ _) (by rfl)).imp fun σ H Q h => tE_mono (one_t h) fun y H1 q => by
    obtain ⟨ds, sv, po, e, q⟩ := q
    obtain ⟨d, rfl, a⟩ := one_opn po
    cases e
    exact ⟨y, d, rfl, a, q _ _ (Res.same (.bl _))⟩
/-! ### what is walked -/
def rng (lo hi : Int) : List PyData := (List.range (hi - lo).toNat).map fun i => .int (lo + (i : Nat))
def itRng1 (m : M Opd) : M (List PyData) := bnd m fun o δ => match o.data δ with
  | some (.int j) => if -(2 ^ 62) ≤ j ∧ j < 2 ^ 62 then .ok (rng 0 j) δ else .bad
  | _ => .bad
def itRng2 (m m' : M Opd) : M (List PyData) := bnd m fun o => bnd m' fun o' δ => match o.data δ, o'.data δ with
  | some (.int i), some (.int j) => if -(2 ^ 62) ≤ i ∧ i < 2 ^ 62 ∧ -(2 ^ 62) ≤ j ∧ j < 2 ^ 62 then .ok (rng i j) δ else .bad
  | _, _ => .bad
theorem opd_int {K : PySem.W.Frag} {H0 H : Hp} {O0 : List Addr} {σ : St} {δ : DS} {T : List (V × SV)} {v : V} {o : Opd} {d : PyData} (ov : OpdV σ v o) (st : Ste K H0 O0 σ H δ (tmp v o ++ T)) (h : o.data δ = some d) : Opn K H v d := by
  have := datas_opn (os := [o]) (vs := [v]) (T := T) (ds := [d]) (.cons ov .nil) (by simpa [tmps] using st) (by simp [datas, h])
  cases this with | cons a _ => exact a
theorem si_range1 {tg e : Expr} {x : Str} {m : M Opd} (hx : x = "range") (hp : plainE e = true) (hg : Gl X x) (hm : X.mg x = none) (he : SE X W e m) : SI X W tg (.Call (.Name x p) [e] [] pos) (itRng1 m) := by
  subst hx
  refine (pi_range1 hg hm (pa_cons he pa_nil (star_plain hp _ _)) (star_plain hp _ _)).imp fun σ H R h => ?_
  obtain ⟨H0, O0, T, δ, st, hm⟩ := h
  refine ⟨H0, O0, T, δ, st, ?_⟩
  unfold itRng1 bnd at hm
  cases e1 : m δ with
  | bad => simp only [e1] at hm
  | exn x δ1 => simp only [e1] at hm; exact hm
  | ok o δ1 =>
    simp only [e1] at hm
    intro v H1 ov st1
    cases e2 : o.data δ1 with
    | none => simp only [e2] at hm
    | some d =>
      simp only [e2] at hm
      cases d with
      | int j =>
        simp only at hm
        by_cases c : -(2 ^ 62) ≤ j ∧ j < 2 ^ 62
        · simp only [if_pos c] at hm
          cases (opd_int ov st1 e2).int
          exact ⟨j, rfl, c.1, c.2, hm _ H1 [] st1.drop (by have := itr_range (K := X.K) (lo := 0) (n := j.toNat); simpa [rng] using this)⟩
        · simp only [if_neg c] at hm
      | _ => exact hm.elim
theorem si_range2 {tg e e' : Expr} {x : Str} {m m' : M Opd} (hx : x = "range") (hp : plainE e = true) (hp' : plainE e' = true) (hg : Gl X x) (hm : X.mg x = none) (he : SE X W e m) (he' : SE X W e' m') : SI X W tg (.Call (.Name x p) [e, e'] [] pos) (itRng2 m m') := by
  subst hx
  refine (pi_range2 hg hm (pa_cons he (pa_cons he' pa_nil (star_plain hp' _ _)) (star_plain hp _ _)) (by rw [star_plain hp, star_plain hp']; rfl) (by rw [star_plain hp']; rfl)).imp fun σ H R h => ?_
  obtain ⟨H0, O0, T, δ, st, hm⟩ := h
  refine ⟨H0, O0, T, δ, st, ?_⟩
  unfold itRng2 bnd at hm
  cases e1 : m δ with
  | bad => simp only [e1] at hm
  | exn x δ1 => simp only [e1] at hm; exact hm
  | ok o δ1 =>
    simp only [e1] at hm
    intro v H1 ov st1
    refine ⟨H0, O0, tmp v o ++ T, δ1, st1, ?_⟩
    cases e2 : m' δ1 with
    | bad => simp only [e2] at hm
    | exn x δ2 => simp only [e2] at hm; exact fun cls d H' a b => hm cls d H' a b.drop
    | ok o' δ2 =>
      simp only [e2] at hm
      intro v' H2 ov' st2
      cases e3 : o.data δ2 with
      | none => simp only [e3] at hm
      | some d =>
        cases e4 : o'.data δ2 with
        | none => simp only [e3, e4] at hm
        | some d' =>
          simp only [e3, e4] at hm
          have st3 : Ste X.K H0 O0 σ H2 δ2 (tmp v o ++ (tmp v' o' ++ T)) := st2.perm (by
            rw [← List.append_assoc, ← List.append_assoc]; exact List.perm_append_comm.append_right T)
          have a := opd_int ov st3 e3
          have b := opd_int ov' st2 e4
          cases d with
          | int i =>
            cases d' with
            | int j =>
              simp only at hm
              by_cases c : -(2 ^ 62) ≤ i ∧ i < 2 ^ 62 ∧ -(2 ^ 62) ≤ j ∧ j < 2 ^ 62
              · simp only [if_pos c] at hm
                cases a.int
                cases b.int
                exact ⟨i, j, rfl, c, hm _ H2 [] st2.drop.drop itr_range⟩
              · simp only [if_neg c] at hm
            | _ => exact hm.elim
          | _ => exact hm.elim
def itScr (i : Nat) : M (List PyData) := fun δ => match at? δ i with
  | some (.scr ns) => .ok (ns.map .int) δ
  | _ => .bad
theorem si_scr {i : Nat} {tg : Expr} {x : Str} (hN : X.N[i]? = some x) (hv : Vis X.env.scope x) (hd : (x == ("__debug__" : Str)) = false) (hcd : (x == ("__classdict__" : Str)) = false) : SI X W tg (.Name x p) (itScr i) :=
  (pi_list (pe_var hN hv hd hcd)).imp fun σ H R h => by
    obtain ⟨H0, O0, T, δ, st, hm⟩ := h
    cases e : at? δ i with
    | none => unfold itScr at hm; simp only [e] at hm
    | some sv =>
      unfold itScr at hm
      simp only [e] at hm
      cases sv with
      | scr ns => exact (by
        obtain ⟨v, ev, o, en⟩ := st.slot e
        cases en with
        | @scr a _ h =>
          refine ⟨_, ev, a, rfl, ⟨_, h.sql⟩, ?_⟩
          have st' : Ste X.K H0 O0 σ H δ ([(.ref a, .scr ns)] ++ T) := Ste.step (Tc := []) (Tn := [(.ref a, .scr ns)]) st fun oc hc nd => by
            cases hc
            exact ⟨[], by simpa using Ents.cons (Ent.scr h) .nil, List.nodup_nil, (fun a ha => by simp at ha), Kp.refl _ _⟩
          refine hm _ H _ st' ⟨fun i H x H' => H' = H ∧ (ns.map V.int)[i]? = some x, ⟨fun i H hi g => ?_, fun H g => ?_, fun i H x H' hi g y => ?_⟩, fun i H x H' y g => ?_⟩
          · obtain ⟨o, en⟩ := g _ List.mem_cons_self
            cases en with | scr q => exact walk_list.goes i H (by simpa using hi) q.sql
          · obtain ⟨o, en⟩ := g _ List.mem_cons_self
            cases en with | scr q => simpa using walk_list.stops H q.sql
          · obtain ⟨o, en⟩ := g _ List.mem_cons_self
            cases en with | scr q => exact walk_list.yields i H x H' (by simpa using hi) q.sql y
          · obtain ⟨rfl, e⟩ := y
            rw [List.getElem?_map] at e
            cases e2 : ns[i]? with
            | none => rw [e2] at e; cases e
            | some n =>
              rw [e2] at e; cases e
              exact ⟨Kp.refl _ _, .int n, by rw [List.getElem?_map, e2]; rfl, .int n⟩)
      | _ => exact hm.elim
/-! ### comprehensions -/
/-- what may not be raised within -/
def noW : WX := fun _ _ _ _ => False
theorem se_comp {elt tg iter : Expr} {ifs : List Expr} {scope : Scope} {own : List (Str × Nat)} {mi : M (List PyData)} {g : TgD} {t : M Bool} {e : M Opd} {is : List Nat} (hc : X.calm = true) (hN : X.N.Nodup) (his : ∀ i ∈ is, i ∈ own.map (·.2)) (hnd : (own.map (·.2)).Nodup) (ok : BlkOk X.N X.env.scope scope own)
    (hi : SI X W tg iter mi) (hg : ∀ (s : Shared) (H : Hp) (C : Addr) (cl : List (Str × Addr)) (fp : List Addr), SG (X.blk s H scope (compEnvC scope cl C X.env) fp) tg g is) (ht : ∀ (s : Shared) (H : Hp) (C : Addr) (cl : List (Str × Addr)) (fp : List Addr), PTs (X.blk s H scope (compEnvC scope cl C X.env) fp) ifs (tT X.K noW t))
    (he : ∀ (s : Shared) (H : Hp) (C : Addr) (cl : List (Str × Addr)) (fp : List Addr), SE (X.blk s H scope (compEnvC scope cl C X.env) fp) noW elt e) (hs : ∀ x, foldedSetIterable iter X.env x = pure x) :
    SE X W (.ListComp elt [⟨tg, iter, ifs, 0⟩] scope pos) (eComp mi g t e (own.map (·.2))) :=
  (pe_lc (te := fun σ H Q => tE X.K noW e σ H fun v H' => Gh (Q v) H') hc hN hi ok hg ht (fun s H C cl fp => (he s H C cl fp).gh) hs).imp fun σ H Q h => comp_t his hnd h
end
end Ev

/-! D16: augmented assignments, rows of names, methods of lists and texts, reversed lists, texts of data. -/
namespace Ev
open PySem PySem.Spec L2
open PyProof.Rows hiding St

/-- x += e, x an int -/
def sAugI (f : Int → Int → Int) (i : Nat) (m : M Opd) : M Flw := fun δ => match at? δ i with
  | some (.dat (.int a)) => bnd m (fun o δ' => match o.data δ' with
      | some (.int b) => .ok .nx (δ'.set i (some (.dat (.int (f a b)))))
      | _ => .bad) δ
  | _ => .bad
/-- names in a row -/
def setsN : List Nat → List SV → DS → DS
  | i :: is, s :: ss, δ => setsN is ss (δ.set i (some s))
  | _, _, δ => δ
def takeV : List Opd → M (List SV)
  | [] => ret []
  | o :: os => bnd (take o) fun s => bnd (takeV os) fun ss => ret (s :: ss)
def sPar (is : List Nat) (ms : List (M Opd)) : M Flw := bnd (evs ms) fun os => bnd (takeV os) fun ss δ => if ss.length = is.length ∧ is.all (· < δ.length) = true then .ok .nx (setsN is ss δ) else .bad
/-- xs.append(e) -/
def eApp (mo m : M Opd) : M Opd := bnd mo fun o => bnd m fun a => bnd (takeD a) fun d δ => match o with
  | .slot i => match at? δ i with
    | some (.lst ds) => if ds.length < sizeLine then .ok (.val (.dat .none)) (δ.set i (some (.lst (ds ++ [d])))) else .bad
    | _ => .bad
  | _ => .bad
/-- a method of data: what it is out of the receiver and the operands -/
def eMth (T : String) (f : List PyData → Option SV) (mo : M Opd) (ms : M (List Opd)) : M Opd := bnd mo fun o => bnd ms fun os => opN f (o :: os)
def gRev : PyData → Option SV
  | .list ds => some (.lst ds.reverse)
  | _ => none
section
variable {X : Cx} {W : WX} {as : List Nat} {pos p p2 p3 p4 apos cpos : Pos}
theorem ss_augI {op : Operator} {f : Int → Int → Int} {i : Nat} {x : Str} {e : Expr} {m : M Opd} (ho : PIp X op (ipI f)) (hN : X.N.Nodup) (hi : X.N[i]? = some x) (hx : Loc X.env.scope x) (hf : X.fn x = true ∨ X.env.scope.names.lookup x = some .local) (hin : ∀ j ∈ [i], j ∈ as) (he : SE X W e m) :
    SS X W as (.AugAssign (.Name x p) op e pos) (sAugI f i m) := (ps_aug hN hi hx he ho hf).imp fun D σ H h => by
  obtain ⟨σ0, H0, O0, T, δ, ap, st, hm⟩ := h
  cases e0 : at? δ i with
  | none => unfold sAugI at hm; simp only [e0] at hm; exact hm.elim
  | some sv =>
    unfold sAugI at hm
    simp only [e0] at hm
    cases sv with
    | dat d =>
      cases d with
      | int a =>
        simp only at hm
        obtain ⟨v, ev, o, en⟩ := st.slot e0
        cases en with
        | dat iv =>
          cases iv
          refine ⟨_, ev, H0, O0, T, δ, st, ?_⟩
          unfold bnd at hm
          cases e1 : m δ with
          | bad => simp only [e1] at hm; exact hm
          | exn y δ1 => simp only [e1] at hm; exact fun cls d H' a b => hm cls d σ H' ap a b
          | ok o δ1 =>
            simp only [e1] at hm
            intro w H1 ov st1
            cases e2 : o.data δ1 with
            | none => simp only [e2] at hm; exact hm.elim
            | some d =>
              simp only [e2] at hm
              cases d with
              | int b =>
                cases (opd_int ov st1 e2).int
                have hl : i < δ1.length := by
                  have l1 : σ.length = δ.length := by obtain ⟨L, z, _⟩ := st; exact z.length
                  have l2 : σ.length = δ1.length := by obtain ⟨L, z, _⟩ := st1; exact z.length
                  rw [← l2, l1]; exact at?_lt e0
                exact ⟨a, b, rfl, rfl, hm _ H1 (ap.trans (apart_set.mono hin)) ((st1.drop.res (Res.same (.int (f a b)))).put hl)⟩
              | _ => exact hm.elim
      | _ => exact hm.elim
    | _ => exact hm.elim
theorem takeV_gh {K : PySem.W.Frag} {H0 : Hp} {O0 : List Addr} {σ : St} : ∀ {os : List Opd} {vs : List V} {T : List (V × SV)} {δ δ' : DS} {H : Hp} {ss : List SV}, OpdVs σ vs os → Ste K H0 O0 σ H δ (tmps vs os ++ T) → takeV os δ = .ok ss δ' → ∀ {Q : Hp → Prop},
    (∀ H', Stays H H' → vs.length = ss.length → Ste K H0 O0 σ H' δ' (vs.zip ss ++ T) → Q H') → Gh Q H
  | [], _, _, _, _, H, _, .nil, h, e, Q, q => by cases e; exact .done (q H (Stays.refl _) rfl h)
  | o :: os, v :: vs, T, δ, δ', H, ss, .cons ov ovs, h, e, Q, q => by
    unfold takeV bnd at e
    cases e1 : take o δ with
    | bad => simp only [e1] at e; cases e
    | exn x δ1 => exact absurd e1 take_noexn
    | ok s δ1 =>
      simp only [e1] at e
      cases e2 : takeV os δ1 with
      | bad => simp only [e2] at e; cases e
      | exn x δ2 => simp only [e2] at e; cases e
      | ok ss' δ2 =>
        simp only [e2, ret] at e
        cases e
        have h' : Ste K H0 O0 σ H δ (tmp v o ++ (tmps vs os ++ T)) := h.perm (by
          simp only [tmps]
          rw [List.append_assoc, ← List.append_assoc, ← List.append_assoc]
          exact List.perm_append_comm.append_right T)
        refine Gh.bind (take_gh (Q := fun H1 => Stays H H1 ∧ Ste K H0 O0 σ H1 δ1 ((v, s) :: (tmps vs os ++ T))) ov h' e1 fun H1 s1 st1 => ⟨s1, st1⟩) fun H1 ⟨s1, st1⟩ => ?_
        have st2 : Ste K H0 O0 σ H1 δ1 (tmps vs os ++ ((v, s) :: T)) := st1.perm List.perm_middle.symm
        exact takeV_gh ovs st2 e2 fun H2 s2 l st3 => q H2 (s1.trans s2) (by simp [l]) (st3.perm (by
          rw [List.zip_cons_cons, List.cons_append]
          exact List.perm_middle))
/-- what a row of names wants -/
def parQ (K : PySem.W.Frag) (is : List Nat) (D : Ends) (σ : St) (vs : List V) (H : Hp) : Prop := ∃ ss H0 O0 T δ, Ste K H0 O0 σ H δ (vs.zip ss ++ T) ∧ vs.length = is.length ∧ ss.length = is.length ∧ (∀ i ∈ is, i < δ.length) ∧ ∀ σ' H', Apart is σ σ' → Ste K H0 O0 σ' H' (setsN is ss δ) T → D.nx σ' H'
theorem par_t {is : List Nat} {ms : List (M Opd)} {D : Ends} {σ : St} {H : Hp} (hin : ∀ i ∈ is, i ∈ as) (h : tS X.K W as (sPar is ms) D σ H) : tA X.K W (evs ms) σ H fun vs H1 => Gh (parQ X.K is D σ vs) H1 := by
  obtain ⟨σ0, H0, O0, T, δ, ap, st, hm⟩ := h
  refine ⟨H0, O0, T, δ, st, ?_⟩
  unfold sPar bnd at hm
  cases e1 : evs ms δ with
  | bad => simp only [e1] at hm; exact hm
  | exn x δ1 => simp only [e1] at hm; exact fun cls d H' a b => hm cls d σ H' ap a b
  | ok os δ1 =>
    simp only [e1] at hm
    intro vs H1 ov st1
    have noexn : ∀ {os : List Opd} {δ δ' : DS} {x : Exn}, takeV os δ ≠ .exn x δ' := by
      intro os
      induction os with
      | nil => intro δ δ' x h; cases h
      | cons o os ih =>
        intro δ δ' x h
        unfold takeV bnd at h
        cases e1 : take o δ with
        | bad => simp only [e1] at h; cases h
        | exn y δ1 => exact take_noexn e1
        | ok s δ1 =>
          simp only [e1] at h
          cases e2 : takeV os δ1 with
          | bad => simp only [e2] at h; cases h
          | exn y δ2 => exact ih e2
          | ok ss δ2 => simp only [e2, ret] at h; cases h
    cases e2 : takeV os δ1 with
    | bad => simp only [e2] at hm; exact hm.elim
    | exn x δ2 => exact absurd e2 noexn
    | ok ss δ2 =>
      simp only [e2] at hm
      by_cases c : ss.length = is.length ∧ is.all (· < δ2.length) = true
      · simp only [if_pos c] at hm
        refine takeV_gh ov st1 e2 fun H2 _ l st2 => ⟨ss, H0, O0, T, δ2, st2, l.trans c.1, c.1, fun i hi => by have := List.all_eq_true.mp c.2 i hi; simpa using this, fun σ' H' ap' st' => hm σ' H' (ap.trans (ap'.mono hin)) st'⟩
      · simp only [if_neg c] at hm
        exact hm.elim
theorem ss_par2 {i j : Nat} {x y : Str} {a b : Expr} {ms : List (M Opd)} {px py pt : Pos} {kt k2 : Nat} {pt2 : Pos} (hin : ∀ k ∈ [i, j], k ∈ as) (hc : X.calm = true) (hN : X.N.Nodup) (hi : X.N[i]? = some x) (hj : X.N[j]? = some y) (hij : i ≠ j) (hx : X.env.scope.names.lookup x = some .local) (hy : X.env.scope.names.lookup y = some .local)
    (ha : SA X W [a, b] (evs ms)) (hw : swappedStores [.Tuple [.Name x px, .Name y py] kt pt] (.Tuple [a, b] k2 pt2) X.env = pure (some [x, y])) (hs : swapsWithSole [.Tuple [.Name x px, .Name y py] kt pt] (.Tuple [a, b] k2 pt2) pos.line X.env = pure false) :
    SS X W as (.Assign [.Tuple [.Name x px, .Name y py] kt pt] (.Tuple [a, b] k2 pt2) pos) (sPar [i, j] ms) := (ps_par hc hN hi hj hij hx hy ha.gh hw hs).imp fun D σ H h => by
  have q := par_t hin h
  obtain ⟨H0, O0, T, δ, st, hm⟩ := q
  refine ⟨H0, O0, T, δ, st, ?_⟩
  cases e : evs ms δ with
  | bad => simp only [e] at hm
  | exn x δ1 => simp only [e] at hm; exact hm
  | ok os δ1 =>
    simp only [e] at hm
    intro vs H1 ov st1
    refine (hm vs H1 ov st1).mono fun H2 ⟨ss, K0, O1, T1, δ2, st2, l1, l2, l3, fin⟩ => ?_
    match vs, ss, l1, l2 with
    | [v, w], [s, t], _, _ =>
      refine ⟨v, w, rfl, fin _ H2 ?_ ?_⟩
      · exact (apart_set.mono (by simp)).trans (apart_set.mono (by simp))
      · have s1 := Ste.put (i := i) (show Ste X.K K0 O1 σ H2 δ2 ((v, s) :: ((w, t) :: T1)) from st2) (l3 i (by simp))
        exact Ste.put (i := j) s1 (by rw [List.length_set]; exact l3 j (by simp))
theorem ss_par3 {i j l : Nat} {x y z : Str} {a b c : Expr} {ms : List (M Opd)} {px py pz pt : Pos} {kt k2 : Nat} {pt2 : Pos} (hin : ∀ k ∈ [i, j, l], k ∈ as) (hc : X.calm = true) (hN : X.N.Nodup) (hi : X.N[i]? = some x) (hj : X.N[j]? = some y) (hl : X.N[l]? = some z) (hij : i ≠ j) (hil : i ≠ l) (hjl : j ≠ l)
    (hx : X.env.scope.names.lookup x = some .local) (hy : X.env.scope.names.lookup y = some .local) (hz : X.env.scope.names.lookup z = some .local) (ha : SA X W [a, b, c] (evs ms))
    (hw : swappedStores [.Tuple [.Name x px, .Name y py, .Name z pz] kt pt] (.Tuple [a, b, c] k2 pt2) X.env = pure (some [x, y, z])) (hs : swapsWithSole [.Tuple [.Name x px, .Name y py, .Name z pz] kt pt] (.Tuple [a, b, c] k2 pt2) pos.line X.env = pure false) :
    SS X W as (.Assign [.Tuple [.Name x px, .Name y py, .Name z pz] kt pt] (.Tuple [a, b, c] k2 pt2) pos) (sPar [i, j, l] ms) := (ps_par3 hc hN hi hj hl hij hil hjl hx hy hz ha.gh hw hs).imp fun D σ H h => by
  have q := par_t hin h
  obtain ⟨H0, O0, T, δ, st, hm⟩ := q
  refine ⟨H0, O0, T, δ, st, ?_⟩
  cases e : evs ms δ with
  | bad => simp only [e] at hm
  | exn x δ1 => simp only [e] at hm; exact hm
  | ok os δ1 =>
    simp only [e] at hm
    intro vs H1 ov st1
    refine (hm vs H1 ov st1).mono fun H2 ⟨ss, K0, O1, T1, δ2, st2, l1, l2, l3, fin⟩ => ?_
    match vs, ss, l1, l2 with
    | [u, v, w], [r, s, t], _, _ =>
      refine ⟨u, v, w, rfl, fin _ H2 ?_ ?_⟩
      · exact (apart_set.mono (by simp)).trans ((apart_set.mono (by simp)).trans (apart_set.mono (by simp)))
      · have s1 := Ste.put (i := i) (show Ste X.K K0 O1 σ H2 δ2 ((u, r) :: ((v, s) :: (w, t) :: T1)) from st2) (l3 i (by simp))
        have s2 := Ste.put (i := j) s1 (by rw [List.length_set]; exact l3 j (by simp))
        exact Ste.put (i := l) s2 (by rw [List.length_set, List.length_set]; exact l3 l (by simp))
/-- a tuple that is taken apart at once: longer rows, rows of constants -/
theorem ss_parN {es gs : List Expr} {is : List Nat} {ms : List (M Opd)} {kt k2 : Nat} {pt pt2 : Pos} (hin : ∀ k ∈ is, k ∈ as) (hc : X.calm = true) (hp : gs.all plainE = true) (hl : is.length = gs.length) (hn : is.length ≤ sizeLine) (ha : SA X W es (evs ms))
    (hg : PGs X gs (fun vs σ H Q => ∃ D : Ends, D.nx = Q ∧ parQ X.K is D σ vs H)) (hw : swappedStores [.Tuple gs kt pt] (.Tuple es k2 pt2) X.env = pure none) (hs : swapsWithSole [.Tuple gs kt pt] (.Tuple es k2 pt2) pos.line X.env = pure false) :
    SS X W as (.Assign [.Tuple gs kt pt] (.Tuple es k2 pt2) pos) (sPar is ms) :=
  (ps_asg (pe_tup ha.gh) (pg_tup hc hg (each_len hp).1 (each_len hp).2) hs hw (by rw [each_plain (by rfl)]; rfl)).imp fun D σ H h => by
    have q := par_t hin h
    obtain ⟨H0, O0, T, δ, st, hm⟩ := q
    refine ⟨H0, O0, T, δ, st, ?_⟩
    cases e : evs ms δ with
    | bad => simp only [e] at hm
    | exn x δ1 => simp only [e] at hm; exact hm
    | ok os δ1 =>
      simp only [e] at hm
      intro vs H1 ov st1
      refine (hm vs H1 ov st1).mono fun H2 ⟨ss, K0, O1, T1, δ2, st2, l1, l2, l3, fin⟩ => ?_
      refine ⟨by rw [l1]; exact hn, fun p hp => ⟨p, vs, rfl, .inl (.inl upd_same), by rw [l1, hl], D, rfl, ss, K0, O1, T1, δ2, ?_, l1, l2, l3, fin⟩⟩
      exact Ste.step (Tc := []) (Tn := []) st2 fun oc hc nd => by
        cases hc
        exact ⟨[], .nil, List.nodup_nil, (fun a ha => by simp at ha), Kp.new hp⟩
theorem pgs_nilN {is : List Nat} : PGs X [] (fun vs σ H Q => ∃ D : Ends, D.nx = Q ∧ parQ X.K [] D σ vs H) := pgs_nil.imp fun vs σ H Q h => by
  obtain ⟨D, rfl, ss, H0, O0, T, δ, st, l1, l2, _, fin⟩ := h
  match vs, ss, l1, l2 with
  | [], [], _, _ => exact ⟨rfl, fin σ H (Apart.refl _ _) st⟩
theorem pgs_consN {x : Str} {es : List Expr} {i : Nat} {is : List Nat} (hN : X.N.Nodup) (hi : X.N[i]? = some x) (hx : Loc X.env.scope x) (hf : X.fn x = true ∨ X.env.scope.names.lookup x = some .local) (h : PGs X es (fun vs σ H Q => ∃ D : Ends, D.nx = Q ∧ parQ X.K is D σ vs H)) :
    PGs X (.Name x p :: es) (fun vs σ H Q => ∃ D : Ends, D.nx = Q ∧ parQ X.K (i :: is) D σ vs H) := (pgs_cons (pg_name hN hi hx hf) h (by rw [each_plain (by rfl)]; rfl)).imp fun vs σ H Q h => by
  obtain ⟨D, rfl, ss, H0, O0, T, δ, st, l1, l2, l3, fin⟩ := h
  match vs, ss, l1, l2 with
  | v :: vs, s :: ss, l1, l2 =>
    refine ⟨v, vs, rfl, D, rfl, ss, H0, O0, T, δ.set i (some s), Ste.put (show Ste X.K H0 O0 σ H δ ((v, s) :: (vs.zip ss ++ T)) from st) (l3 i (by simp)), by simpa using l1, by simpa using l2, fun j hj => by rw [List.length_set]; exact l3 j (by simp [hj]), fun σ' H' ap' st' => fin σ' H' ((apart_set.mono (by simp)).trans (ap'.mono fun k hk => List.mem_cons_of_mem _ hk)) st'⟩
end
end Ev

/-! D17: methods of lists and texts, reversed lists, repr, chains. -/
namespace Ev
open PySem PySem.Spec L2
open PyProof.Rows hiding St

/-- xs.append(e), xs in a slot -/
def eAppd (i : Nat) (m : M Opd) : M Opd := fun δ => match at? δ i with
  | some (.lst _) => bnd m (fun a => bnd (takeD a) fun d δ' => match at? δ' i with
      | some (.lst ds) => if ds.length < sizeLine then .ok (.val (.dat .none)) (δ'.set i (some (.lst (ds ++ [d])))) else .bad
      | _ => .bad) δ
  | _ => .bad
/-- a method of data of the type T -/
def eMt (T : String) (f : List PyData → Option SV) (mo : M Opd) (ms : M (List Opd)) : M Opd := bnd mo fun o δ => match o.data δ with
  | some d => if tyN d = T then bnd ms (fun os => opN f (o :: os)) δ else .bad
  | none => .bad
def gUpper : List PyData → Option SV
  | [.str a] => if a.length ≤ 5592405 then some (.dat (.str (Txt.upper a))) else none
  | _ => none
def gWords : List PyData → Option SV
  | [.str a] => if a.length + 2 ≤ sizeLine then some (.lst ((Txt.words a).map .str)) else none
  | _ => none
def gJoin : List PyData → Option SV
  | [.str a, .list ds] => match txts ds with
    | some ys => if (ys.map (·.length)).sum + ys.length * a.length ≤ 16777216 then some (.dat (.str (Txt.join a ys))) else none
    | none => none
  | _ => none
def gRevL : PyData → Option SV
  | .list ds => some (.lst ds.reverse)
  | _ => none
def gRepr (d : PyData) : Option SV := if (d.canLay0 && d.showable && decide (d.depth ≤ 64) && decide (d.shown.length ≤ sizeLine)) = true then some (.dat (.str d.shown)) else none
def BM (X : Cx) (id : String) (F : List PyData → Option SV) : Prop := MtR X id fun x xs H Q => rN X.K F (x :: xs) H Q
section
variable {X : Cx} {W : WX} {as : List Nat} {pos p p1 p2 p3 p4 apos cpos : Pos}
theorem se_app {i : Nat} {x : Str} {e : Expr} {m : M Opd} (hN : X.N[i]? = some x) (hv : Vis X.env.scope x) (hd : (x == ("__debug__" : Str)) = false) (hcd : (x == ("__classdict__" : Str)) = false) (hp : plainE e = true) (he : SE X W e m)
    (hbase : attributeBase (.Name x p) "append" X.env (eval (.Name x p) X.env) = eval (.Name x p) X.env)
    (hfew : ((backTo cpos (starEach (e :: []) X.env)).all (fun x => !x.1) && (backToKw cpos (keywordEach [] X.env)).all (fun x => x.1.isSome) && decide ((e :: []).length + ([] : List Keyword).length + (if ([] : List Keyword).isEmpty then 0 else 1) < 30)) = true)
    (hline : (apos.endLine == cpos.line) = true) : SE X W (.Call (.Attribute (.Name x p) "append" apos) [e] [] cpos) (eAppd i m) :=
  (pe_bm PySem.F.plainAttrs_list PySem.F.slot_list_append PySem.F.type_list_append mt_append (pe_var hN hv hd hcd) (pa_cons he pa_nil (star_plain hp _ _)).gh hbase hfew hline (star_plain hp _ _) (by rfl)).imp fun σ H Q h => by
    obtain ⟨H0, O0, T, δ, st, hm⟩ := h
    cases e0 : at? δ i with
    | none => unfold eAppd at hm; simp only [e0] at hm
    | some sv =>
      unfold eAppd at hm
      simp only [e0] at hm
      cases sv with
      | lst ds0 =>
        simp only at hm
        obtain ⟨v, ev, o, en⟩ := st.slot e0
        cases en with
        | @lst l vs0 _ h1 t1 =>
          refine ⟨_, ev, .inl ⟨rfl, _, .inl (.inl h1)⟩, H0, O0, T, δ, st, ?_⟩
          unfold bnd at hm
          cases e1 : m δ with
          | bad => simp only [e1] at hm
          | exn y δ1 => simp only [e1] at hm; exact hm
          | ok o δ1 =>
            simp only [e1] at hm
            intro w H1 ov st1
            cases e2 : takeD o δ1 with
            | bad => simp only [e2] at hm
            | exn y δ2 => exact absurd e2 takeD_noexn
            | ok d δ2 =>
              simp only [e2] at hm
              refine takeD_gh ov st1 e2 fun H2 _ st2 iw => ?_
              cases e3 : at? δ2 i with
              | none => simp only [e3] at hm
              | some sv2 =>
                simp only [e3] at hm
                cases sv2 with
                | lst ds =>
                  simp only at hm
                  by_cases c : ds.length < sizeLine
                  · simp only [if_pos c] at hm
                    obtain ⟨v', ev', o', en'⟩ := st2.slot e3
                    have q : v' = .ref l := by rw [ev] at ev'; cases ev'; rfl
                    subst q
                    cases en' with
                    | @lst _ vs _ h2 t2 =>
                      refine ⟨l, vs, w, rfl, rfl, h2, by rw [t2.length]; exact c, ?_⟩
                      refine hm _ _ True.intro (Ste.res ?_ (Res.same .non))
                      refine st2.swapSlot e3 ev fun oc en nd => ?_
                      cases en with
                      | @lst _ vs' _ h3 t3 =>
                        have q : vs' = vs := by rw [h2] at h3; cases h3; rfl
                        subst q
                        have sy : Stays H2 (upd H2 l (.lst (vs' ++ [w]))) := (Kp.at (O := [l]) (by simp)).stays fun b hb => by simp at hb; subst hb; exact ⟨_, h2, by simp, by simp, by simp⟩
                        exact ⟨[l], .lst upd_same ((t3.append (.cons iw .nil)).stays sy), by simp, fun a ha => .inl (by simpa using ha), Kp.at (by simp)⟩
                  · simp only [if_neg c] at hm
                | _ => exact hm.elim
      | _ => exact hm.elim
theorem ty_tyV {K : PySem.W.Frag} {H : Hp} {v : V} {d : PyData} (h : Opn K H v d) (hT : tyN d = "str" ∨ tyN d = "list") : tyV K (tyN d) v H := by
  cases h with
  | dat h =>
    cases h with
    | str x => rfl
    | lst h _ => obtain ⟨o, h⟩ := h; exact .inl ⟨rfl, _, .inl (.inr ⟨o, h⟩)⟩
    | non => simp [tyN] at hT
    | bl b => simp [tyN] at hT
    | int i => simp [tyN] at hT
    | tup _ _ => simp [tyN] at hT
    | dic _ _ => simp [tyN] at hT
  | lst h _ => exact .inl ⟨rfl, _, .inl (.inl h)⟩
  | dic h _ => simp [tyN] at hT
theorem mt_t {K : PySem.W.Frag} {T : String} {f : List PyData → Option SV} {mo : M Opd} {ms : M (List Opd)} (hT : T = "str" ∨ T = "list") {σ : St} {H : Hp} {Q : VK} (h : tE K W (eMt T f mo ms) σ H Q) :
    tE K W mo σ H fun x H1 => tyV K T x H1 ∧ tA K W ms σ H1 fun xs H2 => rN K f (x :: xs) H2 Q := by
  obtain ⟨H0, O0, T0, δ, st, hm⟩ := h
  refine ⟨H0, O0, T0, δ, st, ?_⟩
  unfold eMt bnd at hm
  cases e1 : mo δ with
  | bad => simp only [e1] at hm
  | exn x δ1 => simp only [e1] at hm; exact hm
  | ok o δ1 =>
    simp only [e1] at hm
    intro x H1 ov st1
    cases e2 : o.data δ1 with
    | none => simp only [e2] at hm
    | some d =>
      simp only [e2] at hm
      by_cases c : tyN d = T
      · simp only [if_pos c] at hm
        subst c
        refine ⟨ty_tyV (opd_int ov st1 e2) hT, H0, O0, tmp x o ++ T0, δ1, st1, ?_⟩
        cases e3 : ms δ1 with
        | bad => simp only [e3] at hm
        | exn y δ2 => simp only [e3] at hm; exact fun cls d H' a b => hm cls d H' a b.drop
        | ok os δ2 =>
          simp only [e3] at hm
          intro vs H2 ovs st2
          unfold opN at hm
          cases e4 : datas δ2 (o :: os) with
          | none => simp only [e4] at hm
          | some ds =>
            simp only [e4] at hm
            cases e5 : f ds with
            | none => simp only [e5] at hm
            | some s =>
              simp only [e5] at hm
              have st3 : Ste K H0 O0 σ H2 δ2 (tmps (x :: vs) (o :: os) ++ T0) := by simpa [tmps] using st2
              refine ⟨ds, s, datas_opn (.cons ov ovs) st3 e4, e5, fun v H' r => hm v H' True.intro ?_⟩
              refine Ste.drop (T' := tmps (x :: vs) (o :: os)) (Ste.perm (st3.res r) ?_)
              have p := (List.perm_append_comm (l₁ := [(v, s)]) (l₂ := tmps (x :: vs) (o :: os))).append_right T0
              rw [List.append_assoc, List.append_assoc] at p
              exact p
      · simp only [if_neg c] at hm
theorem se_mt0 {T id : String} {name : Str} {f : List PyData → Option SV} {o : Expr} {mo : M Opd} (hT : T = "str" ∨ T = "list") (pa : PlainAttrs T) (slot : Slot T name id) (hty : typeOf (.builtin id) = pure (.type "method_descriptor")) (hm : BM X id f) (ho : SE X W o mo)
    (hbase : attributeBase o name X.env (eval o X.env) = eval o X.env) (hline : (apos.endLine == cpos.line) = true) : SE X W (.Call (.Attribute o name apos) [] [] cpos) (eMt T f mo (evs [])) :=
  (pe_bm0 pa slot hty hm ho hbase hline).imp fun σ H Q h => tE_mono (mt_t hT h) fun x H1 ⟨a, b⟩ => ⟨a, tA_nil b⟩
theorem se_mt {T id : String} {name : Str} {f : List PyData → Option SV} {o e : Expr} {es : List Expr} {mo : M Opd} {ms : M (List Opd)} (hT : T = "str" ∨ T = "list") (pa : PlainAttrs T) (slot : Slot T name id) (hty : typeOf (.builtin id) = pure (.type "method_descriptor")) (hm : BM X id f) (ho : SE X W o mo) (ha : SA X W (e :: es) ms) (hp : plainE e = true)
    (hbase : attributeBase o name X.env (eval o X.env) = eval o X.env) (hfew : ((backTo cpos (starEach (e :: es) X.env)).all (fun x => !x.1) && (backToKw cpos (keywordEach [] X.env)).all (fun x => x.1.isSome) && decide ((e :: es).length + ([] : List Keyword).length + (if ([] : List Keyword).isEmpty then 0 else 1) < 30)) = true)
    (hline : (apos.endLine == cpos.line) = true) (hpl : (backTo cpos (starEach es X.env)).any (·.1) = false) : SE X W (.Call (.Attribute o name apos) (e :: es) [] cpos) (eMt T f mo ms) :=
  (pe_bm pa slot hty hm ho ha hbase hfew hline (star_plain hp _ _) hpl).imp fun σ H Q h => mt_t hT h
theorem bm_upper : BM X "str.upper" gUpper := by
  intro pins s σ H x xs v us Q I rx rxs h
  obtain ⟨ds, sv, po, e, q⟩ := h
  unfold gUpper at e
  split at e
  · cases po with | cons a t => cases t; exact (by
      split at e
      · rename_i c
        cases e
        cases a.str
        exact mt_upper pins s σ H _ _ v us Q I rx rxs ⟨_, rfl, rfl, c, q _ _ (Res.same (.str _))⟩
      · cases e)
  · cases e
theorem IsAll.txts {K : PySem.W.Frag} {H : Hp} : ∀ {ys : List Str}, IsAll K H (ys.map V.str) (ys.map PyData.str)
  | [] => .nil
  | y :: ys => .cons (.str y) IsAll.txts
theorem bm_words : BM X "str.split" gWords := by
  intro pins s σ H x xs v us Q I rx rxs h
  obtain ⟨ds, sv, po, e, q⟩ := h
  unfold gWords at e
  split at e
  · cases po with | cons a t => cases t; exact (by
      split at e
      · rename_i c
        cases e
        cases a.str
        exact mt_words pins s σ H _ _ v us Q I rx rxs ⟨_, rfl, rfl, c, fun p hp => q _ _ (Res.lst hp IsAll.txts)⟩
      · cases e)
  · cases e
theorem bm_join : BM X "str.join" gJoin := by
  intro pins s σ H x xs v us Q I rx rxs h
  obtain ⟨ds, sv, po, e, q⟩ := h
  unfold gJoin at e
  split at e
  · cases po with | cons a t => cases t with | cons b t => cases t; exact (by
      split at e
      · rename_i ys e2
        split at e
        · rename_i c
          cases e
          cases a.str
          obtain ⟨l, vs, rfl, h1, t1⟩ := b.sql
          rw [txts_vs t1 e2] at h1
          exact mt_join pins s σ H _ _ v us Q I rx rxs ⟨_, l, ys, rfl, rfl, .inl h1, c, q _ _ (Res.same (.str _))⟩
        · cases e
      · cases e)
  · cases e
theorem se_revL {e : Expr} {m : M Opd} {k : Nat} (he : SE X W e m) : SE X W (.Subscript e (.Slice none none (some (.UnaryOp .USub (.Constant (.int 1) k p1) p2)) p3) pos) (eOp (g1 gRevL) [m]) :=
  (pe_revL he).imp fun σ H Q h => tE_mono (one_t h) fun x H1 q => by
    obtain ⟨ds, sv, po, e, q⟩ := q
    obtain ⟨d, rfl, a⟩ := one_opn po
    have e : gRevL d = some sv := e
    unfold gRevL at e
    split at e
    · cases e
      obtain ⟨l, vs, rfl, h1, t1⟩ := a.sql
      exact ⟨l, vs, rfl, h1, fun p hp => q _ _ (Res.lst hp t1.reverse)⟩
    · cases e
/-! ### repr -/
theorem br_repr (hG : X.A.guards = some []) (hu : X.A.units + 66 < cLine) : BR X (.builtin "repr") (g1 gRepr) := by
  intro pins s σ H xs us Q I r h
  obtain ⟨ds, sv, po, e, q⟩ := h
  obtain ⟨d, ed, hd⟩ : ∃ d, ds = [d] ∧ gRepr d = some sv := by
    unfold g1 at e
    split at e
    · exact ⟨_, rfl, e⟩
    · cases e
  subst ed
  unfold gRepr at hd
  split at hd
  · rename_i c
    simp only [Bool.and_eq_true, decide_eq_true_eq] at c
    obtain ⟨⟨⟨c1, c2⟩, c3⟩, c4⟩ := c
    cases hd
    cases po with
    | cons a t =>
      cases t
      cases r with
      | cons rx rr =>
        cases rr
        have dp := a.dp c1
        obtain ⟨as, rd⟩ := Dp.reads I _ _ _ dp rx
        cases d with
        | none =>
          cases rd
          exact PySem.P.repr_of_none ⟨.str _, H, I.tok _, ⟨_, rfl⟩, q _ _ (Res.same (.str _))⟩
        | bool b =>
          cases rd
          refine PySem.P.repr_of_bool ⟨.str _, H, I.tok _, ⟨_, rfl⟩, ?_⟩
          exact q _ _ (Res.same (.str _))
        | int i =>
          cases rd
          refine PySem.P.repr_of_int (by simpa [PyData.showable] using c2) ⟨.str _, H, I.tok _, ⟨_, rfl⟩, ?_⟩
          exact q _ _ (Res.same (.str _))
        | str x =>
          cases rd
          refine PySem.P.repr_of_str ⟨.str _, H, I.tok _, ⟨_, rfl⟩, ?_⟩ c4
          exact q _ _ (Res.same (.str _))
        | list zs =>
          obtain ⟨l, e⟩ : ∃ l, ‹Value› = .ref l := by cases rd; exact ⟨_, rfl⟩
          subst e
          exact repr_of_reads' rd c2 (PySem.PyData.noDict_hsm (PySem.PyData.hasDict_of_canLay _ c1)) hG (by omega) (fun _ _ e => e) (fun h' u tk k => ⟨.str _, H, I.kept k, ⟨_, rfl⟩, q _ _ (Res.same (.str _))⟩) c4
        | tuple zs =>
          obtain ⟨l, e⟩ : ∃ l, ‹Value› = .ref l := by cases rd; exact ⟨_, rfl⟩
          subst e
          exact repr_of_reads' rd c2 (PySem.PyData.noDict_hsm (PySem.PyData.hasDict_of_canLay _ c1)) hG (by omega) (fun _ _ e => e) (fun h' u tk k => ⟨.str _, H, I.kept k, ⟨_, rfl⟩, q _ _ (Res.same (.str _))⟩) c4
        | dict kvs => simp [PyData.canLay0] at c1
  · cases hd
end
end Ev

/-! D18: chains, a list made for a name, calls without arguments, the module's constants. -/
namespace Ev
open PySem PySem.Spec L2
open PyProof.Rows hiding St

section
variable {X : Cx} {W : WX} {as : List Nat} {pos p p1 p2 p3 p4 apos cpos : Pos}
theorem takes_no : Takes X noW := fun u s' h => by
  obtain ⟨_, _, _, _, _, _, _, _, _, _, _, _, _, _, _, _, h⟩ := h
  exact h.elim
theorem chain_t {K : PySem.W.Frag} {o1 o2 : CmpOp} {a b c : M Opd} {r r' : R2} (hr : ∀ x y H Q, rN K (gB2 (gCmp o1)) [x, y] H Q → r x y H Q) (hr' : ∀ x y H Q, rN K (gB2 (gCmp o2)) [x, y] H Q → r' x y H Q) {σ : St} {H : Hp} {Q : VK} (h : tE K W (eChain o1 o2 a b c) σ H Q) :
    tChain r r' (tE K W a) (tE K W b) (tE K W c) σ H Q := by
  obtain ⟨H0, O0, T, δ, st, hm⟩ := h
  refine ⟨H0, O0, T, δ, st, ?_⟩
  unfold eChain bnd at hm
  cases e1 : a δ with
  | bad => simp only [e1] at hm
  | exn x δ1 => simp only [e1] at hm; exact hm
  | ok x δ1 =>
    simp only [e1] at hm
    intro v H1 ov st1
    refine ⟨H0, O0, tmp v x ++ T, δ1, st1, ?_⟩
    cases e2 : b δ1 with
    | bad => simp only [e2] at hm
    | exn y δ2 => simp only [e2] at hm; exact fun cls d H' a b => hm cls d H' a b.drop
    | ok y δ2 =>
      simp only [e2] at hm
      intro w H2 ow st2
      have st3 : Ste K H0 O0 σ H2 δ2 (tmps [v, w] [x, y] ++ T) := by simpa [tmps] using st2
      unfold opN at hm
      cases e3 : datas δ2 [x, y] with
      | none => simp only [e3] at hm
      | some ds =>
        simp only [e3] at hm
        cases e4 : gB2 (gCmp o1) ds with
        | none => simp only [e4] at hm
        | some s =>
          simp only [e4] at hm
          have po := datas_opn (.cons ov (.cons ow .nil)) st3 e3
          obtain ⟨d1, d2, rfl, pa, pb⟩ := two_opn po
          obtain ⟨k, ek, rfl⟩ := Option.map_eq_some_iff.mp (show (gCmp o1 d1 d2).map (fun b => SV.dat (.bool b)) = some s from e4)
          refine hr v w H2 _ ⟨[d1, d2], _, po, e4, fun z H3 rz => ?_⟩
          have zk : z = .bl k := by
            obtain ⟨_, o, en, _⟩ := rz
            cases en with | dat i => cases i; rfl
          subst zk
          refine ⟨k, rfl, ?_⟩
          have st4 := st3.res rz
          simp only [truth, Opd.data, SV.data, Option.bind, truthy] at hm
          cases k with
          | false =>
            simp only [Bool.false_eq_true, if_false, ret] at hm ⊢
            refine hm _ H3 True.intro ?_
            refine Ste.drop (T' := tmps [v, w] [x, y]) (Ste.perm st4 ?_)
            have p := (List.perm_append_comm (l₁ := [(V.bl false, SV.dat (.bool false))]) (l₂ := tmps [v, w] [x, y])).append_right T
            rw [List.append_assoc, List.append_assoc] at p
            exact p
          | true =>
            simp only [if_true] at hm ⊢
            have st5 : Ste K H0 O0 σ H3 δ2 (tmp w y ++ (tmp v x ++ T)) := by simpa [tmps] using st4.drop1
            refine ⟨H0, O0, _, δ2, st5, ?_⟩
            cases e5 : c δ2 with
            | bad => simp only [e5] at hm
            | exn q δ3 => simp only [e5] at hm; exact fun cls d H' a b => hm cls d H' a b.drop.drop
            | ok u δ3 =>
              simp only [e5] at hm
              intro w' H4 ou st6
              -- the middle one's slot holds what it held, as a value
              cases e6 : datas δ3 [y, u] with
              | none => simp only [e6] at hm
              | some ds2 =>
                simp only [e6] at hm
                cases e7 : gB2 (gCmp o2) ds2 with
                | none => simp only [e7] at hm
                | some s2 =>
                  simp only [e7] at hm
                  have st7 : Ste K H0 O0 σ H4 δ3 (tmps [w, w'] [y, u] ++ (tmp v x ++ T)) := by simpa [tmps] using st6
                  have po2 := datas_opn (.cons ow (.cons ou .nil)) st7 e6
                  refine hr' w w' H4 _ ⟨ds2, s2, po2, e7, fun z H5 rz => hm z H5 True.intro ?_⟩
                  have st8 := st7.res rz
                  refine Ste.drop (T' := tmp v x) (Ste.drop (T' := tmps [w, w'] [y, u]) (Ste.perm st8 ?_))
                  have p := (List.perm_append_comm (l₁ := [(z, s2)]) (l₂ := tmps [w, w'] [y, u] ++ tmp v x)).append_right T
                  rw [List.append_assoc, List.append_assoc, List.append_assoc, List.append_assoc] at p
                  simpa [tmp] using p
theorem se_chain (hu : X.A.units + 65 < cLine) {o1 o2 : CmpOp} {a b c : Expr} {ma mb mc : M Opd} (ha : SE X W a ma) (hb : SE X W b mb) (hc : SE X W c mc) (hm : lastMarks [o1, o2] [b, c] = false) : SE X W (.Compare a [o1, o2] [b, c] pos) (eChain o1 o2 ma mb mc) :=
  (pe_chain (opn_cmp hu o1) (opn_cmp hu o2) ha hb hc hm).imp fun σ H Q h => chain_t (fun _ _ _ _ h => h) (fun _ _ _ _ h => h) h
theorem boolM_chain {o1 o2 : CmpOp} {a b c : M Opd} : BoolM (eChain o1 o2 a b c) := by
  refine boolM_bnd fun x => boolM_bnd fun y => ?_
  intro δ o δ' h
  unfold bnd at h
  cases e1 : opN (gB2 (gCmp o1)) [x, y] δ with
  | bad => simp only [e1] at h; cases h
  | exn q δ1 => simp only [e1] at h; cases h
  | ok z δ1 =>
    simp only [e1] at h
    obtain ⟨k, rfl⟩ := boolM_opN δ z δ1 e1
    simp only [truth, Opd.data, SV.data, Option.bind, truthy] at h
    cases k with
    | false =>
      simp only [Bool.false_eq_true, if_false, ret] at h
      cases h
      exact ⟨false, rfl⟩
    | true =>
      simp only [if_true] at h
      exact boolM_bnd (m := c) (f := fun w => opN (gB2 (gCmp o2)) [y, w]) (fun _ => boolM_opN) δ1 o δ' h
theorem st_chain (hu : X.A.units + 65 < cLine) {o1 o2 : CmpOp} {a b c : Expr} {ma mb mc : M Opd} (ha : SE X W a ma) (hb : SE X W b mb) (hc : SE X W c mc) (hm : lastMarks [o1, o2] [b, c] = false) : ST X W (.Compare a [o1, o2] [b, c] pos) (tOf (eChain o1 o2 ma mb mc)) :=
  (pt_chain (opn_cmp hu o1) (opn_cmp hu o2) ha hb hc hm).imp fun σ H Q h => chain_t (fun _ _ _ _ h => h) (fun _ _ _ _ h => h) (boolT boolM_chain h)
theorem eComp_val {mi : M (List PyData)} {g : TgD} {t : M Bool} {e : M Opd} {vs : List Nat} {δ δ' : DS} {o : Opd} (h : eComp mi g t e vs δ = .ok o δ') : ∃ s, o = .val s := by
  unfold eComp bnd at h
  cases e2 : mi δ with
  | bad => simp only [e2] at h; cases h
  | exn x δ2 => simp only [e2] at h; cases h
  | ok ds δ2 =>
    simp only [e2] at h
    cases e3 : compM g t e vs ds [] δ2 with
    | ok acc δ3 => simp only [e3] at h; cases h; exact ⟨_, rfl⟩
    | exn x δ3 => simp only [e3] at h; cases h
    | bad => simp only [e3] at h; cases h
theorem sSetV_t {g : TgD} {m : M Opd} {is : List Nat} (hin : ∀ i ∈ is, i ∈ as) (hv : ∀ {δ δ' : DS} {o : Opd}, m δ = .ok o δ' → ∃ s, o = .val s) {D : Ends} {σ : St} {H : Hp} (h : tS X.K W as (sSet g m) D σ H) : tE X.K W m σ H fun x H1 => tG X.K g is x σ H1 D.nx := by
  obtain ⟨σ0, H0, O0, T, δ, ap, st, hm⟩ := h
  refine ⟨H0, O0, T, δ, st, ?_⟩
  unfold sSet bnd at hm
  cases e1 : m δ with
  | bad => simp only [e1] at hm; exact hm
  | exn x δ1 => simp only [e1] at hm; exact fun cls d H' a b => hm cls d σ H' ap a b
  | ok o δ1 =>
    simp only [e1] at hm
    obtain ⟨s, rfl⟩ := hv e1
    intro v H1 ov st1
    simp only [take, ret, asg] at hm
    cases e3 : g s δ1 with
    | none => simp only [e3] at hm; exact False.elim hm
    | some δ3 =>
      simp only [e3] at hm
      exact ⟨H0, O0, T, δ1, s, δ3, st1, e3, fun σ' H' ap' st' => hm σ' H' (ap.trans (ap'.mono hin)) st'⟩
theorem ss_setLc {i : Nat} {y : Str} {py : Pos} {elt tg iter : Expr} {ifs : List Expr} {scope : Scope} {own : List (Str × Nat)} {spos : Pos} {mi : M (List PyData)} {g : TgD} {t : M Bool} {e : M Opd} {is : List Nat} (hin : ∀ j ∈ [i], j ∈ as) (hc : X.calm = true) (hN : X.N.Nodup) (hy : X.N[i]? = some y) (hyl : X.env.scope.names.lookup y = some .local)
    (hsw : swapsWith (.ListComp elt [⟨tg, iter, ifs, 0⟩] scope pos) (some (.Name y py)) spos.line X.env = pure true) (his : ∀ i ∈ is, i ∈ own.map (·.2)) (hnd : (own.map (·.2)).Nodup) (ok : BlkOk X.N X.env.scope scope own)
    (hi : SI X W tg iter mi) (hg : ∀ (s : Shared) (H : Hp) (C : Addr) (cl : List (Str × Addr)) (fp : List Addr), SG (X.blk s H scope (compEnvC scope cl C X.env) fp) tg g is) (ht : ∀ (s : Shared) (H : Hp) (C : Addr) (cl : List (Str × Addr)) (fp : List Addr), PTs (X.blk s H scope (compEnvC scope cl C X.env) fp) ifs (tT X.K noW t))
    (he : ∀ (s : Shared) (H : Hp) (C : Addr) (cl : List (Str × Addr)) (fp : List Addr), SE (X.blk s H scope (compEnvC scope cl C X.env) fp) noW elt e) (hs : ∀ x, foldedSetIterable iter X.env x = pure x) :
    SS X W as (.Assign [.Name y py] (.ListComp elt [⟨tg, iter, ifs, 0⟩] scope pos) spos) (sSet (Ev.gName i) (eComp mi g t e (own.map (·.2)))) :=
  (ps_setLc (g := tG X.K g is) (te := fun σ H Q => tE X.K noW e σ H fun v H' => Gh (Q v) H') hc hN hy hyl hsw hi ok hg ht (fun s H C cl fp => (he s H C cl fp).gh) hs).imp fun D σ H h =>
    comp_t his hnd (tE_mono (sSetV_t (is := [i]) hin eComp_val h) fun v H1 q => gName_t q)
theorem se_call0 {x : Str} {np : Nat} {F : FN} {k : Nat} (c : CalF X.prog X.w X.K X.mg X.base k x np F) (tk : Takes X W) (hG : X.A.guards = some []) (hr : Room k X.A) (hg : Gl X x) (hdb : (x == ("__debug__" : Str)) = false) : SE X W (.Call (.Name x p) [] [] pos) (eCall F (evs [])) := by
  obtain ⟨⟨f, fd, ps, ok, hm, hk, hb⟩, ar⟩ := c
  refine ⟨fun pins s σ H Q I h => wpAny_Call_Name_kw (ld_glob I hg hm ?_ hdb)⟩
  exact PySem.W.callWith_K0 I.kIn hk (ok.run1 (us := []) (vs := []) hG hr hb tk I .nil (tA_nil (call_t ar h)))
/-- a raise that is never reached -/
theorem ss_raiseNo {o c : Option Expr} : SS X W as (.Raise o c pos) stuck := ⟨fun pins s σ H D I h => by
  obtain ⟨_, _, _, _, _, _, _, h⟩ := h
  exact h.elim⟩
/-! ### the module's constants -/
theorem se_gstr {x z : Str} (h : ∃ t, X.mg x = some (.str z t)) (hg : Gl X x) (hd : (x == ("__debug__" : Str)) = false) : SE X W (.Name x pos) (eDat (.str z)) := by
  obtain ⟨t, h⟩ := h
  exact se_glob hg h (v := .str z) ⟨t, rfl⟩ (fun _ => .str z) hd
theorem se_gint {x : Str} {i : Int} (h : ∃ t, X.mg x = some (.int i t)) (hg : Gl X x) (hd : (x == ("__debug__" : Str)) = false) : SE X W (.Name x pos) (eDat (.int i)) := by
  obtain ⟨t, h⟩ := h
  exact se_glob hg h (v := .int i) ⟨t, rfl⟩ (fun _ => .int i) hd
theorem se_gdat {x : Str} {d : PyData} (h : ∃ a, X.mg x = some (.ref a) ∧ ∀ H, IsD X.K H (.ref a) d) (hg : Gl X x) (hd : (x == ("__debug__" : Str)) = false) : SE X W (.Name x pos) (eDat d) := by
  obtain ⟨a, h, i⟩ := h
  exact se_glob hg h (v := .ref a) rfl i hd
end
end Ev

/-! D19: sorted texts, dicts out of pairs, the drawing's state made. -/
namespace Ev
open PySem PySem.Spec L2
open PyProof.Rows hiding St

/-! ### sorted texts -/
def leS (a b : Str) : Bool := !ltCps b.cps.toList a.cps.toList
def sortT (ks : List Str) : List Str := ks.mergeSort leS
theorem ltCps_irr : ∀ a : List Nat, ltCps a a = false
  | [] => rfl
  | a :: r => by simp [ltCps, ltCps_irr r]
theorem ltCps_total : ∀ a b : List Nat, ltCps a b = false → ltCps b a = false → a = b
  | [], [], _, _ => rfl
  | [], _ :: _, h, _ => by simp [ltCps] at h
  | _ :: _, [], _, h => by simp [ltCps] at h
  | a :: r, b :: t, h1, h2 => by
    simp only [ltCps, Bool.or_eq_false_iff, decide_eq_false_iff_not, Bool.and_eq_false_iff] at h1 h2
    have e : a = b := by omega
    subst e
    have h1' : ltCps r t = false := by rcases h1.2 with q | q; simp at q; exact q
    have h2' : ltCps t r = false := by rcases h2.2 with q | q; simp at q; exact q
    rw [ltCps_total r t h1' h2']
theorem ltCps_asym : ∀ a b : List Nat, ltCps a b = true → ltCps b a = false
  | [], [], h => by simp [ltCps] at h
  | [], _ :: _, _ => rfl
  | _ :: _, [], h => by simp [ltCps] at h
  | a :: r, b :: t, h => by
    simp only [ltCps, Bool.or_eq_true, decide_eq_true_eq, Bool.and_eq_true] at h
    simp only [ltCps, Bool.or_eq_false_iff, decide_eq_false_iff_not, Bool.and_eq_false_iff]
    rcases h with h | ⟨h1, h2⟩
    · refine ⟨by omega, .inl ?_⟩
      simp; omega
    · have e : a = b := by simpa using h1
      subst e
      exact ⟨by omega, .inr (ltCps_asym r t h2)⟩
theorem ltCps_trans : ∀ a b c : List Nat, ltCps b a = false → ltCps c b = false → ltCps c a = false
  | a, b, [], _, h2 => by
    cases b with
    | nil => cases a with
      | nil => rfl
      | cons x a => assumption
    | cons y b => simp [ltCps] at h2
  | [], b, c :: r, _, _ => rfl
  | a :: s, [], c :: r, h1, _ => by simp [ltCps] at h1
  | a :: s, b :: t, c :: r, h1, h2 => by
    simp only [ltCps, Bool.or_eq_false_iff, decide_eq_false_iff_not, Bool.and_eq_false_iff] at h1 h2 ⊢
    refine ⟨by omega, ?_⟩
    by_cases e : c = a
    · subst e
      have eb : b = c := by omega
      subst eb
      right
      have q1 : ltCps t s = false := by rcases h1.2 with q | q; simp at q; exact q
      have q2 : ltCps r t = false := by rcases h2.2 with q | q; simp at q; exact q
      exact ltCps_trans s t r q1 q2
    · left; simpa using e
theorem leS_trans {a b c : Str} (h1 : leS a b = true) (h2 : leS b c = true) : leS a c = true := by
  unfold leS at *
  simp only [Bool.not_eq_true'] at *
  exact ltCps_trans _ _ _ h1 h2
theorem leS_anti {a b : Str} (h1 : leS a b = true) (h2 : leS b a = true) : a = b := by
  unfold leS at *
  simp only [Bool.not_eq_true'] at *
  have e := ltCps_total _ _ h2 h1
  cases a; cases b
  congr 1
  exact Array.toList_inj.mp e
theorem leS_total (a b : Str) : (leS a b || leS b a) = true := by
  unfold leS
  cases h : ltCps b.cps.toList a.cps.toList with
  | false => rfl
  | true => rw [ltCps_asym _ _ h]; rfl
theorem rising_pw : ∀ (p : Str) (l : List Str), risingS p l = true → (p :: l).Pairwise (fun a b => leS a b = true)
  | p, [], _ => by simp
  | p, x :: r, h => by
    have h' : (!ltCps x.cps.toList p.cps.toList && risingS x r) = true := h
    rw [Bool.and_eq_true] at h'
    have ih := rising_pw x r h'.2
    rw [List.pairwise_cons]
    refine ⟨fun y hy => ?_, ih⟩
    rcases List.mem_cons.mp hy with rfl | hy
    · exact h'.1
    · exact leS_trans h'.1 ((List.pairwise_cons.mp ih).1 y hy)
theorem sortedS_pw {l : List Str} (h : sortedS l = true) : l.Pairwise (fun a b => leS a b = true) := by
  cases l with
  | nil => exact .nil
  | cons x r => exact rising_pw x r h
theorem perm_pw_eq : ∀ {xs ys : List Str}, xs.Perm ys → xs.Pairwise (fun a b => leS a b = true) → ys.Pairwise (fun a b => leS a b = true) → xs = ys
  | [], ys, p, _, _ => (List.nil_perm.mp p).symm
  | x :: xs, [], p, _, _ => absurd p.length_eq (by simp)
  | x :: xs, y :: ys, p, hx, hy => by
    have e : x = y := by
      have h1 : x ∈ y :: ys := p.mem_iff.mp List.mem_cons_self
      have h2 : y ∈ x :: xs := p.mem_iff.mpr List.mem_cons_self
      rcases List.mem_cons.mp h1 with q | q
      · exact q
      · rcases List.mem_cons.mp h2 with q2 | q2
        · exact q2.symm
        · exact leS_anti ((List.pairwise_cons.mp hx).1 y q2) ((List.pairwise_cons.mp hy).1 x q)
    subst e
    rw [perm_pw_eq (List.perm_cons x |>.mp p) (List.pairwise_cons.mp hx).2 (List.pairwise_cons.mp hy).2]
theorem sortT_uniq {ys ks : List Str} (p : ys.Perm ks) (h : sortedS ys = true) : ys = sortT ks :=
  perm_pw_eq (p.trans (List.mergeSort_perm ks leS).symm) (sortedS_pw h) (List.pairwise_mergeSort (le := leS) (fun a b c => leS_trans) leS_total ks)
/-- sorted(..): texts, less than 64; a dict's keys -/
def gSorted : PyData → Option SV
  | .list ds => match txts ds with
    | some ks => if ks.length < 64 then some (.lst ((sortT ks).map .str)) else none
    | none => none
  | .dict kvs => match txts (kvs.map (·.1)) with
    | some ks => if ks.length < 64 then some (.lst ((sortT ks).map .str)) else none
    | none => none
  | _ => none
/-! ### dict(pairs) -/
def keyOf : PyData → Option Key
  | .int i => some (.inl i)
  | .str x => some (.inr x)
  | _ => none
/-- what stands under each key, in the order of their first coming -/
def putD (kvs : List (PyData × PyData)) (k v : PyData) : List (PyData × PyData) := if (kvs.any fun p => decide (keyOf p.1 = keyOf k)) = true then kvs.map (fun p => if keyOf p.1 = keyOf k then (p.1, v) else p) else kvs ++ [(k, v)]
def mergeD (kvs more : List (PyData × PyData)) : List (PyData × PyData) := more.foldl (fun acc p => putD acc p.1 p.2) kvs
def pairsOf? : List PyData → Option (List (PyData × PyData))
  | [] => some []
  | .tuple [k, v] :: ds => if (keyOf k).isSome = true then (pairsOf? ds).map ((k, v) :: ·) else none
  | _ => none
def gDictOf : PyData → Option SV
  | .list ds => (pairsOf? ds).map fun ps => .dic (mergeD [] ps)
  | _ => none
theorem opn_dic {K : PySem.W.Frag} {H : Hp} {v : V} {kvs : List (PyData × PyData)} (h : Opn K H v (.dict kvs)) : ∃ (l : Addr) (ws : List (Key × V)), v = .ref l ∧ Rd H l (.dK ws) ∧ kvs.map (·.1) = ws.map fun p => kD p.1 := by
  generalize hd : PyData.dict kvs = d at h
  cases h with
  | dat i =>
    subst hd
    obtain ⟨l, o, ws, ds, ev, hf, t, ez⟩ := dic_inv i
    exact ⟨l, ws, ev, .inr ⟨o, hf⟩, by rw [ez]; exact kvsD_fst t.length⟩
  | lst _ _ => cases hd
  | @dic l ws ds hf t =>
    cases hd
    exact ⟨l, ws, rfl, .inl hf, kvsD_fst t.length⟩
section
variable {X : Cx} {W : WX} {as : List Nat} {pos p p1 p2 p3 p4 apos cpos : Pos}
theorem br_sorted (hc : X.calm = true) : BR X (.builtin "sorted") (g1 gSorted) := by
  intro pins s σ H xs us Q I r h
  obtain ⟨ds, sv, po, e, q⟩ := h
  unfold g1 at e
  split at e
  · cases po with | cons a t => cases t; exact (by
      unfold gSorted at e
      split at e
      · split at e
        · rename_i ks e2
          split at e
          · rename_i c
            cases e
            obtain ⟨l, vs, rfl, h1, t1⟩ := a.sql
            rw [txts_vs t1 e2] at h1
            exact cr_sortedS pins s σ H _ us Q I r ⟨_, _, rfl, h1, c, fun ys p hy hs hp => by
              rw [sortT_uniq hy hs]
              exact q _ _ (Res.lst hp IsAll.txts)⟩
          · cases e
        · cases e
      · split at e
        · rename_i kvs ks e2
          split at e
          · rename_i c
            cases e
            obtain ⟨l, ws, ev, hR, eks⟩ := opn_dic a
            subst ev
            have ek : ws.map (·.1) = ks.map Sum.inr := by
              rw [eks] at e2
              clear eks hR q c a r
              induction ws generalizing ks with
              | nil => cases e2; rfl
              | cons w ws ih =>
                obtain ⟨k, v⟩ := w
                cases k with
                | inl i => cases e2
                | inr x =>
                  obtain ⟨ks', e3, rfl⟩ := Option.map_eq_some_iff.mp (show (txts (ws.map fun p => kD p.1)).map (x :: ·) = some ks from e2)
                  simp [ih ks' e3]
            exact call_sortedD hc pins s σ H _ us Q I r ⟨l, ws, ks, rfl, hR, ek, c, fun ys p hy hs hp => by
              rw [sortT_uniq hy hs]
              exact q _ _ (Res.lst hp IsAll.txts)⟩
          · cases e
        · cases e
      · cases e)
  · cases e
theorem keyOf_kD (k : Key) : keyOf (kD k) = some k := by cases k <;> rfl
theorem kD_keyOf {d : PyData} {k : Key} (h : keyOf d = some k) : kD k = d := by
  cases d <;> simp [keyOf] at h <;> subst h <;> rfl
theorem putD_put {K : PySem.W.Frag} {H : Hp} {ws : List (Key × V)} {ds : List PyData} (t : IsAll K H (ws.map (·.2)) ds) {k : Key} {v : V} {d : PyData} (iv : IsD K H v d) :
    ∃ ds', IsAll K H ((putK ws k v).map (·.2)) ds' ∧ putD (kvsD ws ds) (kD k) d = kvsD (putK ws k v) ds' := by
  have hk : ∀ (k' : Key), (keyOf (kD k') = keyOf (kD k)) = (k' = k) := fun k' => by rw [keyOf_kD, keyOf_kD]; simp
  have any : ((kvsD ws ds).any fun p => decide (keyOf p.1 = keyOf (kD k))) = ws.any fun kv => decide (kv.1 = k) := by
    have e := kvsD_fst t.length
    have e2 : ((kvsD ws ds).map (·.1)).any (fun x => decide (keyOf x = keyOf (kD k))) = (ws.map fun p => kD p.1).any (fun x => decide (keyOf x = keyOf (kD k))) := by rw [e]
    rw [List.any_map, List.any_map] at e2
    have e3 : (ws.any ((fun x => decide (keyOf x = keyOf (kD k))) ∘ fun p => kD p.1)) = ws.any fun kv => decide (kv.1 = k) := by
      congr 1
      funext kv
      simp only [Function.comp, hk]
    exact e2.trans e3
  unfold putD putK
  rw [any]
  by_cases c : (ws.any fun kv => decide (kv.1 = k)) = true
  · rw [if_pos c, if_pos c]
    clear any c
    induction ws generalizing ds with
    | nil => cases t; exact ⟨[], .nil, rfl⟩
    | cons w ws ih =>
      cases t with
      | @cons _ _ d0 ds0 a t =>
        obtain ⟨ds', t', e'⟩ := ih t
        by_cases q : w.1 = k
        · refine ⟨d :: ds', ?_, ?_⟩
          · simp only [List.map_cons, if_pos q]; exact .cons iv t'
          · show (if keyOf (kD w.1) = keyOf (kD k) then (kD w.1, d) else (kD w.1, d0)) :: (kvsD ws ds0).map _ = _
            rw [if_pos (by rw [hk]; exact q), e']
            simp only [List.map_cons, if_pos q]
            rfl
        · refine ⟨d0 :: ds', ?_, ?_⟩
          · simp only [List.map_cons, if_neg q]; exact .cons a t'
          · show (if keyOf (kD w.1) = keyOf (kD k) then (kD w.1, d) else (kD w.1, d0)) :: (kvsD ws ds0).map _ = _
            rw [if_neg (by rw [hk]; exact q), e']
            simp only [List.map_cons, if_neg q]
            rfl
  · rw [if_neg c, if_neg c]
    refine ⟨ds ++ [d], ?_, ?_⟩
    · rw [List.map_append]; exact t.append (.cons iv .nil)
    · unfold kvsD
      rw [List.map_append, List.zip_append (by rw [List.length_map, ← t.length, List.length_map])]
      rfl
theorem mergeD_merge {K : PySem.W.Frag} {H : Hp} : ∀ {ms : List (Key × V)} {es : List PyData} {ws : List (Key × V)} {ds : List PyData}, IsAll K H (ws.map (·.2)) ds → IsAll K H (ms.map (·.2)) es →
    ∃ ds', IsAll K H ((mergeK ws ms).map (·.2)) ds' ∧ mergeD (kvsD ws ds) (kvsD ms es) = kvsD (mergeK ws ms) ds'
  | [], _, ws, ds, t, .nil => ⟨ds, t, rfl⟩
  | m :: ms, e :: es, ws, ds, t, .cons a t2 => by
    obtain ⟨ds1, t1, e1⟩ := putD_put (k := m.1) t a
    obtain ⟨ds2, t3, e2⟩ := mergeD_merge (ws := putK ws m.1 m.2) t1 t2
    refine ⟨ds2, t3, ?_⟩
    show mergeD (putD (kvsD ws ds) (kD m.1) e) (kvsD ms es) = _
    rw [e1]
    exact e2
theorem pairsOf_inv {d : PyData} {ds : List PyData} {ps : List (PyData × PyData)} (h : pairsOf? (d :: ds) = some ps) : ∃ k x ps' k', d = .tuple [k, x] ∧ keyOf k = some k' ∧ pairsOf? ds = some ps' ∧ ps = (k, x) :: ps' := by
  cases d with
  | tuple xs =>
    match xs, h with
    | [k, x], h =>
      have h' : (if (keyOf k).isSome = true then (pairsOf? ds).map ((k, x) :: ·) else none) = some ps := h
      by_cases c : (keyOf k).isSome = true
      · rw [if_pos c] at h'
        obtain ⟨ps', e, rfl⟩ := Option.map_eq_some_iff.mp h'
        obtain ⟨k', ek⟩ := Option.isSome_iff_exists.mp c
        exact ⟨k, x, ps', k', rfl, ek, e, rfl⟩
      · rw [if_neg c] at h'; cases h'
    | [], h => cases h
    | [_], h => cases h
    | _ :: _ :: _ :: _, h => cases h
  | none => cases h
  | bool _ => cases h
  | int _ => cases h
  | str _ => cases h
  | list _ => cases h
  | dict _ => cases h
theorem key_v {K : PySem.W.Frag} {H : Hp} {v : V} {k : Key} (h : IsD K H v (kD k)) : v = kV k := by
  cases k with
  | inl i => cases h; rfl
  | inr z => cases h; rfl
theorem pair_v {K : PySem.W.Frag} {H : Hp} {v : V} {k x : PyData} {k' : Key} (ek : keyOf k = some k') (h : IsD K H v (.tuple [k, x])) : ∃ p xv, v = .ref p ∧ SqT K H p [kV k', xv] ∧ IsD K H xv x := by
  have e := kD_keyOf ek
  subst e
  generalize hd : PyData.tuple [kD k', x] = d at h
  cases h with
  | @tup p xs ds hs t =>
    cases hd
    cases t with
    | cons a t =>
      cases t with
      | cons b t =>
        cases t
        exact ⟨p, _, rfl, by rw [key_v a] at hs; exact hs, b⟩
  | _ => cases hd
/-- the pairs behind a list of pairs -/
theorem pairs_vs {K : PySem.W.Frag} {H : Hp} : ∀ {ds : List PyData} {vs : List V} {ps : List (PyData × PyData)}, IsAll K H vs ds → pairsOf? ds = some ps →
    ∃ (as : List Addr) (ms : List (Key × V)) (es : List PyData), vs = as.map V.ref ∧ Paired (fun p kv => SqT K H p [kV kv.1, kv.2]) as ms ∧ IsAll K H (ms.map (·.2)) es ∧ ps = kvsD ms es
  | [], _, ps, .nil, h => by cases h; exact ⟨[], [], [], rfl, .nil, .nil, rfl⟩
  | d :: ds, v :: vs, ps, .cons a t, h => by
    obtain ⟨k, x, ps', k', rfl, ek, e, rfl⟩ := pairsOf_inv h
    obtain ⟨as, ms, es, rfl, pa, ta, rfl⟩ := pairs_vs t e
    obtain ⟨p, xv, rfl, hs, iv⟩ := pair_v ek a
    refine ⟨p :: as, (k', xv) :: ms, x :: es, rfl, .cons hs pa, .cons iv ta, ?_⟩
    show (k, x) :: kvsD ms es = (kD k', x) :: kvsD ms es
    rw [kD_keyOf ek]
theorem br_dict (hc : X.calm = true) : BR X (.type "dict") (g1 gDictOf) := by
  intro pins s σ H xs us Q I r h
  obtain ⟨ds, sv, po, e, q⟩ := h
  unfold g1 at e
  split at e
  · cases po with | cons a t => cases t; exact (by
      unfold gDictOf at e
      split at e
      · obtain ⟨ps, e2, rfl⟩ := Option.map_eq_some_iff.mp e
        obtain ⟨l, vs, rfl, h1, t1⟩ := a.sql
        obtain ⟨as, ms, es, rfl, pa, ta, rfl⟩ := pairs_vs t1 e2
        refine call_dictP hc pins s σ H _ us Q I r ⟨l, as, ms, rfl, h1, pa, fun p hp => ?_⟩
        obtain ⟨ds', t', e'⟩ := mergeD_merge (ws := []) (ds := []) .nil ta
        refine q _ _ ⟨Kp.new hp, [p], ?_, by simp, fun a ha => by simp at ha; subst ha; exact hp⟩
        have e3 : mergeD [] (kvsD ms es) = kvsD (mergeK [] ms) ds' := e'
        rw [e3]
        have sy : Stays H (upd H p (.dK (mergeK [] ms))) := (Kp.new (O := []) hp).stays fun b hb => by simp at hb
        exact Ent.dic upd_same (t'.stays sy)
      · cases e)
  · cases e
end
end Ev

/-! D20: the drawing's state made. -/
namespace Ev
open PySem PySem.Spec L2
open PyProof.Rows hiding St

def intsD : List PyData → Option (List Int)
  | [] => some []
  | .int i :: ds => (intsD ds).map (i :: ·)
  | _ => none
def eSrcNew (mc mm : M Opd) : M Opd := bnd mc fun o => bnd mm fun o' δ => match o, o' with
  | .val (.lst ds), .val (.dat (.int n)) => match intsD ds with
    | some cs => .ok (.val (.src ⟨cs, 1, n, 0⟩)) δ
    | none => .bad
  | _, _ => .bad
theorem ints_vs {K : PySem.W.Frag} {H : Hp} : ∀ {ds : List PyData} {vs : List V} {bs : List Int}, IsAll K H vs ds → intsD ds = some bs → vs = bs.map V.int
  | [], _, bs, .nil, h => by cases h; rfl
  | d :: ds, _, bs, .cons a t, h => by
    cases d with
    | int b =>
      obtain ⟨bs', e, rfl⟩ := Option.map_eq_some_iff.mp (show (intsD ds).map (b :: ·) = some bs from h)
      cases a
      rw [ints_vs t e]; rfl
    | _ => cases h
theorem Ent.lst_own {K : PySem.W.Frag} {H : Hp} {a : Addr} {ds : List PyData} {o : List Addr} (h : Ent K H (V.ref a, SV.lst ds) o) : o = [a] := by cases h; rfl
theorem Ent.dic_own {K : PySem.W.Frag} {H : Hp} {a : Addr} {z : List (PyData × PyData)} {o : List Addr} (h : Ent K H (V.ref a, SV.dic z) o) : o = [a] := by
  generalize hz : (V.ref a, SV.dic z) = e at h
  cases h with
  | dic _ _ => cases hz; rfl
  | _ => cases hz
section
variable {X : Cx} {W : WX} {as : List Nat} {pos p p1 p2 p3 p4 apos cpos : Pos}
theorem merge_src {S : Src} {c : Addr} : mergeK [] (kvsS S c) = kvsS S c := by
  obtain ⟨k1, k2, k3, k4, k5, k6⟩ := sk
  simp [mergeK, kvsS, putK, k1, k1.symm, k2, k2.symm, k3, k3.symm, k4, k4.symm, k5, k5.symm, k6, k6.symm]
theorem se_srcNew {e1 e2 : Expr} {mc mm : M Opd} {j1 j2 j3 j4 j5 j6 : Nat} {q1 q2 q3 q4 q5 q6 : Pos} (h1 : SE X W e1 mc) (h2 : SE X W e2 mm) :
    SE X W (.Dict [some (.Constant (.str "cells") j1 q1), some (.Constant (.str "left") j2 q2), some (.Constant (.str "mixed") j3 q3), some (.Constant (.str "turn") j4 q4)] [e1, .Constant (.int 1) j5 q5, e2, .Constant (.int 0) j6 q6] pos) (eSrcNew mc mm) :=
  (pe_disp (pps_cons pe_str h1 (pps_cons pe_str pe_int (pps_cons pe_str h2 (pps_cons pe_str pe_int pps_nil)))) rfl rfl (by simp) (by simp)).imp fun σ H Q h => by
    obtain ⟨H0, O0, T, δ, st, hm⟩ := h
    intro p hp
    have r0 : Res X.K H (.ref p) (.dic []) (upd H p (.dK [])) := ⟨Kp.new hp, [p], Ent.dic (kvs := []) (ds := []) upd_same .nil, by simp, fun a ha => by simp at ha; subst ha; exact hp⟩
    have st0 := st.res r0
    refine ⟨H0, O0, _, δ, st0, ?_⟩
    unfold eSrcNew bnd at hm
    cases e1 : mc δ with
    | bad => simp only [e1] at hm
    | exn x δ1 => simp only [e1] at hm; exact fun cls d H' a b => hm cls d H' a b.drop1
    | ok o δ1 =>
      simp only [e1] at hm
      intro v H1 ov st1
      show tE X.K W mm σ H1 _
      refine ⟨H0, O0, _, δ1, st1, ?_⟩
      cases e2 : mm δ1 with
      | bad => simp only [e2] at hm
      | exn x δ2 => simp only [e2] at hm; exact fun cls d H' a b => hm cls d H' a b.drop.drop1
      | ok o' δ2 =>
        simp only [e2] at hm
        intro w H2 ow st2
        cases o with
        | slot i => exact hm.elim
        | val s =>
          cases s with
          | lst ds =>
            cases o' with
            | slot i => exact hm.elim
            | val s' =>
              cases s' with
              | dat d =>
                cases d with
                | int n =>
                  simp only at hm
                  cases e3 : intsD ds with
                  | none => simp only [e3] at hm
                  | some cs =>
                    simp only [e3] at hm
                    have st3 : Ste X.K H0 O0 σ H2 δ2 ([(v, SV.lst ds), (V.ref p, SV.dic [])] ++ T) := Ste.drop1 (by simpa [tmp] using st2)
                    obtain ⟨ow', enw⟩ := st2.ent (e := (w, SV.dat (.int n))) (by simp [tmp])
                    have ew : w = .int n := by cases enw with | dat i => cases i; rfl
                    subst ew
                    obtain ⟨o1, en1⟩ := st3.ent (e := (v, SV.lst ds)) (by simp)
                    obtain ⟨o2, en2⟩ := st3.ent (e := (V.ref p, SV.dic [])) (by simp)
                    have hpp : H2 p = some (.dK []) := by
                      generalize hz : ([] : List (PyData × PyData)) = z at en2
                      generalize hv : V.ref p = pv at en2
                      cases en2 with
                      | @dic a kvs ds2 h3 t3 =>
                        cases hv
                        have l := t3.length
                        cases kvs with
                        | nil => exact h3
                        | cons kv kvs =>
                          cases ds2 with
                          | nil => simp at l
                          | cons d2 ds2 => cases hz
                    cases en1 with
                    | @lst c vs _ hc tc =>
                      have evs := ints_vs tc e3
                      subst evs
                      refine ⟨hpp, kvsS ⟨cs, 1, n, 0⟩ c, rfl, by simp [kvsS], ?_⟩
                      rw [merge_src]
                      refine hm _ _ True.intro ?_
                      refine Ste.step (Tc := [(V.ref c, SV.lst ds), (V.ref p, SV.dic [])]) (Tn := [(V.ref p, SV.src ⟨cs, 1, n, 0⟩)]) st3 fun oc hoc nd => ?_
                      cases hoc with
                      | cons c1 r1 =>
                        cases r1 with
                        | cons c2 r2 =>
                          cases r2
                          have q1 := c1.lst_own
                          have q2 := c2.dic_own
                          subst q1 q2
                          have hne : c ≠ p := by rintro rfl; rw [hc] at hpp; cases hpp
                          exact ⟨[p, c] ++ [], Ents.cons (Ent.src (S := ⟨cs, 1, n, 0⟩) upd_same (by rw [upd_ne hne]; exact hc)) .nil, by simp [hne.symm], fun a ha => by simp at ha; left; simp; rcases ha with h | h <;> simp [h], Kp.at (by simp)⟩
                | _ => exact hm.elim
              | _ => exact hm.elim
          | _ => exact hm.elim
end
end Ev

/-! D21: an own exception over ValueError whose __init__ says super().__init__(x); self.x = x. -/
namespace Ev
open PySem PySem.Spec PySem.W PySem.Calls PySem.HandSPX
open PyProof.Rows hiding St

abbrev veB : List Value := [.type "ValueError", .type "Exception", .type "BaseException", .type "object"]
/-- the function object of such an __init__ -/
structure ExI (F : Str) (K : Frag) (fI cc cda : Addr) : Prop where
  ex : ∃ (qual : Str) (params : Arguments) (scope : Scope) (kV doc pm : Value) (an : Option Addr) (ct oc : Value) (od : Option Addr) (osl : Array (Option Value)) (ar : Arg) (k : Nat) (p0 p1 p2 p3 p4 p5 p6 p7 p8 p9 : Pos),
    K.lookup fI = some ⟨oc, od, .func (ksFn "__init__" qual params
      [.Expr (.Call (.Attribute (.Call (.Name "super" p0) [] [] p1) "__init__" p2) [.Name F p3] [] p4) p5, .Assign [.Attribute (.Name "self" p6) F p7] (.Name F p8) p9] scope .none kV doc pm an (.ref cda) ct cc), osl⟩ ∧
    codeIn K (.ref cda) qual = true ∧ (params.posonlyargs ++ params.args).head? = some ar ∧ ar.arg = "self" ∧
    (∀ (s : Shared) (a b : Value), BindsTo s (ksFn "__init__" qual params
      [.Expr (.Call (.Attribute (.Call (.Name "super" p0) [] [] p1) "__init__" p2) [.Name F p3] [] p4) p5, .Assign [.Attribute (.Name "self" p6) F p7] (.Name F p8) p9] scope .none kV doc pm an (.ref cda) ct cc) ⟨[a, b], []⟩ [("self", a), (F, b)]) ∧
    scope.kind = .function ∧ scope.isCoroutine = false ∧ scope.isGenerator = false ∧ (∀ x ∈ scope.names, x.2 ≠ .cell) ∧ scope.names.lookup ("self" : Str) = some .local ∧ scope.names.lookup F = some .local ∧
    scope.names.lookup ("__class__" : Str) = some .free ∧ scope.names.lookup ("super" : Str) = some .globalImplicit ∧ (p2.endLine == p4.line) = true
structure ExT (prog : Program) (F : Str) (K : Frag) (C fI cc cda : Addr) : Prop where
  ini : excInitIn K C veB "ValueError.__new__" = true
  find : findIn K (.ref C) "__init__" = some (some (.ref fI))
  isf : isFn K (.ref fI) = true
  fn : ExI F K fI cc cda
  code : ∃ (ccl : Value) (cdd : Option Addr) (vs : Array Value) (ccs : Array (Option Value)) (file : Str) (tf : Tok), K.lookup cda = some ⟨ccl, cdd, .fields vs, ccs⟩ ∧ vs[2]? = some (.str file tf) ∧ ((prog.main.file : Str) == file) = true
  cell : ∃ (cl : Value) (cld : Option Addr) (csl : Array (Option Value)), K.lookup cc = some ⟨cl, cld, .cell (some (.ref C)), csl⟩
  cls : ∃ cd, clsIn K C = some cd ∧ refsVE cd.mro = true ∧ cd.hasDict = true
  sub : mroIn K C (.ref C) = some true
  top : (prog.main.scope.names.lookup ("super" : Str)).isSome = false
  opq : nsIn K cStatics "thirdparty.any" = some none
  alg : ks_superIn K C C "__init__" = some (some (.builtin "ValueError.__init__"))
  base : subIn K (.ref C) (.type "ValueError") = some true
  sa : findIn K (.ref C) "__setattr__" = some (some (.builtin "object.__setattr__"))
  noF : findIn K (.ref C) F = some none
  fs : F ≠ "self" ∧ (F == ("__debug__" : Str)) = false

section
variable {prog : Program} {w : World} {A : Around} {R : Result → Shared → Prop} {s : Shared} {K : Frag} {mg mb : Str → Option Value} {F : Str} {C fI cc cda : Addr}
theorem look_self {F : Str} {e v : Value} (h : F ≠ "self") : ([((("self" : Str)), e), (F, v)].reverse.lookup ("self" : Str)) = some e := by
  have : (("self" : Str) == F) = false := by simpa using h.symm
  simp [List.lookup, this]
theorem look_F {F : Str} {e v : Value} : ([((("self" : Str)), e), (F, v)].reverse.lookup F) = some v := by
  simp [List.lookup]
theorem ex_init (T : ExT prog F K C fI cc cda) {hp : Heap} {g : Array GenState} {d : Drawn} {tk : Nat} {os : OsState} {e t : Addr} {v : Value} {h0 : Heap} (X : K.In hp) (G : hp.Ns mainGlobals mg) (hsup : mg "super" = none) (B : hp.Ns builtinsNs mb) (hb : ∀ x : Str, x ≠ "__name__" → mb x = bootBuiltins x)
    (lim : hp.NoLimit) (k0 : ∀ b o, hp.get? b = some o → h0.get? b = some o) (he : h0.get? e = some (excObj C t none .none)) (ne : hp.get? e = none) (hsz : hp.objs.size ≤ h0.objs.size) (room : A.depth < recursionLimit)
    (hq : ∀ h' tk' dx t', (∀ b o, hp.get? b = some o → h'.get? b = some o) → h'.get? e = some (excObj C t' (some dx) .none) → h0.objs.size ≤ dx → dx ≠ e → h'.Ns1 dx (fun y => if y = F then some v else none) → R (.ok (.ret .none)) ⟨h', g, d, tk', os⟩) :
    codeAny (model prog w) A (.call (.ref fI) ⟨[.ref e, v], []⟩) R ⟨h0, g, d, tk, os⟩ := by
  obtain ⟨qual, params, scope, kV, doc, pm, an, ct, oc, od, osl, ar, k, p0, p1, p2, p3, p4, p5, p6, p7, p8, p9, lk, hcd, har, hself, hbind, s1, s2, s3, s4, s5, s6, s7, s8, hline⟩ := T.fn.ex
  obtain ⟨ccl, cdd, vs, ccs, file, tf, lc, hvs, hfile⟩ := T.code
  obtain ⟨cl, cld, csl, lcell⟩ := T.cell
  obtain ⟨cd, hcls, hve, hdict⟩ := T.cls
  have X0 : K.In h0 := X.keeps k0
  obtain ⟨fs1, fs2⟩ := T.fs
  refine ks_codeAny_call_defAt (fd := ksFn "__init__" qual params _ scope .none kV doc pm an (.ref cda) ct cc) (binds := [("self", .ref e), (F, v)]) room (X0 _ _ lk) rfl (lim.keeps k0) (codeRec_of X0 hcd) rfl (hbind _ _ _) s4 (fun x hx => ?_) (fun h₁ hns hk₁ => ?_) s2 s3 s1
  · simp at hx
    rcases hx with rfl | rfl
    · exact s5
    · exact s6
  · have L0 : h0.objs.size ≠ e := Nat.ne_of_gt (Heap.lt_size he)
    have F1 : Fr hp h0.objs.size h₁ (fun y => [((("self" : Str)), Value.ref e), (F, v)].reverse.lookup y) := ⟨hns, fun b o q => hk₁ b o (k0 b o q), hsz⟩
    have N1 : News hp h0.objs.size h₁ [(e, excObj C t none .none)] := fun p hp' => by
      simp at hp'
      subst hp'
      exact ⟨hk₁ _ _ he, L0.symm, ne⟩
    show _root_.PySem.wpAt _ _ _ (execs _ (ksEnv qual scope h0.objs.size fI (.ref cda) cc)) _ _ _
    have hi : interactive (ksEnv qual scope h0.objs.size fI (.ref cda) cc) = false := by
      unfold interactive
      show (scope.kind == .module && _) = false
      rw [s1]; rfl
    refine ks_wpAt_execs_cons (ks_wpAt_Expr_any ?_ hi rfl)
    refine ks_wpAt_MethodCall (pl := L2.plainOf (.Call (.Name "super" p0) [] [] p1) (ksEnv qual scope h0.objs.size fI (.ref cda) cc)) ?_ ?he
    case he =>
      rw [arm_eval_Call]
      congr 1
      funext ov
      congr 1
      funext _
      exact L2.mcall_line rfl hline
    have X1 : K.In h₁ := X.keeps F1.keep
    obtain ⟨oD, hD1, hD2⟩ : ∃ oD, h₁.get? C = some oD ∧ oD.data = .cls cd := by
      unfold clsIn at hcls
      split at hcls
      · rename_i c d cd' sl ho
        cases hcls
        exact ⟨_, X1 _ _ ho, rfl⟩
      · cases hcls
    have I1 : InstAt h₁ e (excObj C t none .none) C none := ⟨hk₁ _ _ he, rfl, rfl, trivial⟩
    refine ks_wpAt_super_base (env := ksEnv qual scope h0.objs.size fI (.ref cda) cc) s8 s7 (by decide) rfl (X1 _ _ lk) rfl har rfl (X1 _ _ lc) rfl hvs hfile T.top ?_
    refine ks_loadName_global s1 s8 (loadGlobal_builtin (env := ksEnv qual scope h0.objs.size fI (.ref cda) cc) (G.keeps F1.keep) hsup (B.keeps F1.keep) ((hb _ (by decide +kernel)).trans (by kernel_rfl : bootBuiltins "super" = some (.type "super"))) ⟨rfl, ?_⟩)
    refine wpAny_loadName_free s1 s7 rfl ⟨_, X1 _ _ lcell, rfl⟩ ?_
    rw [hself]
    refine wpAny_loadName_local s1 s5 F1.ns (look_self fs1) ?_
    refine ks_wpAny_isType_cls hD1 hD2 ⟨rfl, ?_⟩
    refine ks_wpAny_call_super hD1 hD2 I1.at_ I1.cls (fun c q => by cases q) (looks_mroIn X1 T.sub) (fun h2 hso k2 => ?_)
    obtain ⟨F2, N2, l2⟩ := ks_newsPush (s := ⟨h₁, g, d, tk + 2, os⟩) F1 N1 rfl hso k2
    have I2 : InstAt h2 e (excObj C t none .none) C none := ⟨k2 _ _ I1.at_, rfl, rfl, trivial⟩
    refine kxs_method (s := ⟨h2, g, d, _, os⟩) kxs_ValueError F2 X N2 List.mem_cons_self I2 T.opq T.alg T.base (by decide) (fun q h3 F3 N3 l3 => ?_)
    refine kxs_callWith1 (x := e) (u := q) N3 List.mem_cons_self ?_
    refine Calls.spliced_cons (ESX.ldL (m := _) F3.ns look_F (Calls.spliced_nil ⟨kxs_at N3 List.mem_cons_self, ?_⟩) s1 s6 fs2)
    have q1 : e < q := l3 (e, excObj C t none .none) (by simp)
    have q2 : e < h₁.objs.size := l2 (e, excObj C t none .none) (by simp)
    refine kxs_call (t := t) (dv := none) (c2 := .none) (nw := fun o => [(q, kxs_mw "ValueError.__init__" e), (h₁.objs.size, ks_superObj C e C), (e, o)]) F3 X N3 PySem.F.excBase_ValueError T.ini List.mem_cons_self (.tail (Nat.ne_of_gt q1) (.tail (Nat.ne_of_gt q2) (.head (fun _ z => by cases z)))) (by show 1 ≤ sizeLine; rw [sizeLine_eq]; omega) (fun t' h4 F4 N4 l4 => ?_)
    have e4 : h4.get? e = some (excO C t') := (N4 (e, excObj C t' none .none) (by simp)).1
    have X4 : K.In h4 := X.keeps F4.keep
    show _root_.PySem.wpAt _ _ _ (execs _ (ksEnv qual scope h0.objs.size fI (.ref cda) cc)) _ _ _
    refine wpAt_of_wpAny (wpAny_execs_cons (plainObj_wpAny_Assign_Attribute ?_))
    refine ESX.ldL F4.ns look_F (ESX.ldL F4.ns (look_self fs1) ?_ s1 s5 (by decide)) s1 s6 fs2
    refine set_plain X4 (ox := excO C t') (od := none) ⟨e4, rfl, rfl, trivial⟩ T.sa ?_
    refine exc_osa X4 e4 hcls hve hdict T.noF (fun h5 tk5 dx k5 dn dne hx5 hn5 => ?_)
    show wpAny _ _ (execs _ _) _ _ _
    refine wpAny_execs_nil (hq h5 _ dx t' (fun b o q => k5 b o (fun z => by rw [z, ne] at q; cases q) (F4.keep b o q)) hx5 (Nat.le_trans (Nat.le_of_lt F4.ns.lt) dn) dne hn5)
/-- what such a class made leaves -/
structure ExMade (hp h' : Heap) (e C d : Addr) (F : Str) (v : Value) : Prop where
  keep : ∀ b o, hp.get? b = some o → h'.get? b = some o
  new : hp.objs.size ≤ e
  obj : ∃ t, h'.get? e = some (excObj C t (some d) .none)
  dbig : hp.objs.size ≤ d
  dne : d ≠ e
  ns : h'.Ns1 d (fun y => if y = F then some v else none)
theorem ex_made (T : ExT prog F K C fI cc cda) {v : Value} (X : K.In s.heap) (G : s.heap.Ns mainGlobals mg) (hsup : mg "super" = none) (B : s.heap.Ns builtinsNs mb) (hb : ∀ x : Str, x ≠ "__name__" → mb x = bootBuiltins x) (lim : s.heap.NoLimit) (room : A.depth + 1 < recursionLimit)
    (hq : ∀ h' tk e d, ExMade s.heap h' e C d F v → R (.ok (.ret (.ref e))) { s with heap := h', toks := tk }) : codeAny (model prog w) A (.call (.ref C) ⟨[v], []⟩) R s := by
  obtain ⟨hp, g, dr, tk, os⟩ := s
  obtain ⟨nm, N', qn, bs, bm, hdct, sn, sub, ab, col, dd, k0, k1, k2, k3, k5, hC, hT⟩ := excInit_of X T.ini
  obtain ⟨oI, hoI, hcI⟩ : ∃ oI, hp.get? fI = some oI ∧ oI.cls = .type "function" := by
    obtain ⟨o, ho, hc⟩ := Option.map_eq_some_iff.mp (show (K.lookup fI).map (·.cls) = some (.type "function") from beq_iff_eq.mp T.isf)
    exact ⟨o, X _ _ ho, hc⟩
  have k : ∀ b o, hp.get? b = some o → ((hp.push (kdv_tup [v])).push (excO C hp.objs.size)).get? b = some o := fun b o e => Heap.get?_push_of_some _ (Heap.get?_push_of_some _ e)
  have hget : ((hp.push (kdv_tup [v])).push (excO C hp.objs.size)).get? (hp.objs.size + 1) = some (excO C hp.objs.size) := by heap_get
  have ne : hp.get? (hp.objs.size + 1) = none := by
    cases z : hp.get? (hp.objs.size + 1) with
    | none => rfl
    | some o => exact absurd (Nat.lt_of_succ_lt (Heap.lt_size z)) (Nat.lt_irrefl _)
  refine PySem.HandSPX.call_own PySem.F.excBase_ValueError hT hC (looks_findIn X T.find) (fun self => exc_bind hoI hcI self) (by show 1 ≤ sizeLine; rw [sizeLine_eq]; omega) ?_
  refine ex_init (h0 := (hp.push (kdv_tup [v])).push (excO C hp.objs.size)) T X G hsup B hb lim k hget ne ?_ ?_ fun h' tk' dx t' k' he hdx hne hns => ?_
  · rw [Heap.size_push, Heap.size_push]; exact Nat.le_trans (Nat.le_succ _) (Nat.le_succ _)
  · exact room
  · refine ⟨rfl, hq h' tk' _ dx ⟨k', Nat.le_succ _, ⟨t', he⟩, ?_, hne, hns⟩⟩
    rw [Heap.size_push, Heap.size_push] at hdx
    exact Nat.le_trans (Nat.le_trans (Nat.le_succ _) (Nat.le_succ _)) hdx
end
end Ev

/-! D22: such an exception raised. -/
namespace Ev
open PySem PySem.Spec L2
open PyProof.Rows hiding St

/-- what is known of an own exception class: its name, its field -/
structure ExK (prog : Program) (K : PySem.W.Frag) (mg : Str → Option Value) (x F : Str) : Prop where
  ex : ∃ C fI cc cda, ExT prog F K C fI cc cda ∧ mg x = some (.ref C) ∧ PySem.W.nsIn K mainGlobals x = some (some (.ref C)) ∧ PySem.W.keepIn K (.ref C) = true ∧ PySem.W.subIn K (.ref C) (.type "BaseException") = some true ∧ PySem.W.typeIn K (.ref C) = some (.type "type")
/-- raise x(e) -/
def sRaise (x F : Str) (m : M Opd) : M Flw := bnd m fun o => bnd (takeD o) fun d δ => .exn ⟨x, [(F, d)]⟩ δ
theorem relO_one {F : Str} {v : V} {v' : Value} (r : RelV v v') (f : Str) : RelO (List.lookup f [(F, v)]) (if f = F then some v' else none) := by
  by_cases h : f = F
  · subst h
    rw [if_pos rfl]
    have e : List.lookup f [(f, v)] = some v := by simp [List.lookup]
    rw [e]
    exact r
  · rw [if_neg h]
    have : (f == F) = false := by simpa using h
    simp [List.lookup, this]
    trivial
section
variable {X : Cx} {W : WX} {as : List Nat} {pos p p1 p2 p3 p4 pos2 : Pos}
def tMkX (C : Addr) (F : Str) (ta : TA) : St → Hp → XK → Prop := fun σ H Q => ta σ H fun vs H1 => ∃ v, vs = [v] ∧ ∀ d, H1 d = none → Q (.ref C) (some d) (upd H1 d (.xd [(F, v)]))
theorem pmk_ex {x F : Str} {C fI cc cda : Addr} {k : Nat} {a : Expr} {ta : TA} (T : ExT X.prog F X.K C fI cc cda) (gC : X.mg x = some (.ref C)) (kC : PySem.W.keepIn X.K (.ref C) = true) (b1 : PySem.W.subIn X.K (.ref C) (.type "BaseException") = some true) (b2 : PySem.W.typeIn X.K (.ref C) = some (.type "type"))
    (sup : X.mg "super" = none) (hr : Room k X.A) (ha : PA X [a] ta) (hg : Gl X x) (hdb : (x == ("__debug__" : Str)) = false) (hp : plainE a = true) : PMk X (.Call (.Name x p) [a] [] pos) (tMkX C F ta) := by
  intro pins s σ H Q I h
  refine wpAny_Call_Name_kw (ld_glob I hg gC ?_ hdb)
  refine PySem.W.callWith_K (h₀ := X.base) I.ok.mod.kin kC (thn (ha.run pos pins s σ H _ I h) fun us s1 hh => ?_) (star_plain hp _ _) rfl
  obtain ⟨vs, H1, I1, r1, v, rfl, q1⟩ := hh
  refine ⟨I1.kIn, ?_⟩
  cases r1 with
  | cons rv rn =>
    rename_i v' us'
    cases rn
    show wpAny _ _ (call (.ref C) [v']) _ _ _
    obtain ⟨mb, hB, hbb⟩ := I1.mod.blt
    have hlim := I1.nolimit
    obtain ⟨hp', g, dr, tk, os⟩ := s1
    refine wpAny_call (ex_made T I1.kIn (I1.mod.glob.keeps I1.bk) sup (hB.keeps I1.bk) hbb hlim (by have := hr.dp; omega) fun h' tk' e d M => ?_)
    obtain ⟨t, hoe⟩ := M.obj
    obtain ⟨G', g1, g2⟩ := restrict h' fun b => decide (b ≠ e)
    have gk : ∀ b, b ≠ e → G'.get? b = h'.get? b := fun b hb => g1 b (decide_eq_true hb)
    have ge : G'.get? e = none := g2 e (by simp)
    have old : ∀ b o, hp'.get? b = some o → G'.get? b = some o := fun b o q => (gk b (Nat.ne_of_lt (Nat.lt_of_lt_of_le (Heap.lt_size q) M.new))).trans (M.keep b o q)
    have ob : ObjOk X.prog X.w (upd H1 d (.xd [(F, v)])) G' d (.xd [(F, v)]) := ⟨_, M.ns.at (fun o q => (gk d M.dne).trans q), fun f => relO_one rv f⟩
    have J : Inv X pins σ (upd H1 d (.xd [(F, v)])) ⟨G', g, dr, tk', os⟩ := I1.laid (t' := tk') old M.dbig ob
    refine ⟨e, _, _, ⟨G', g, dr, tk', os⟩, _, .ref C, some d, rfl, J, fun b o q => ?_, ge, hoe, ⟨rfl, rfl⟩, rfl, rfl, ?_, rfl, I1.bare, raises_own b1 b2, q1 d (I1.hok.fresh M.dbig)⟩
    · by_cases hb : b = e
      · have q' : G'.get? b = some o := q
        rw [hb, ge] at q'; cases q'
      · exact (gk b hb).symm.trans q
    · rw [upd_ne (Ne.symm M.dne)]
      exact I1.hok.fresh M.new
theorem ss_raise {x F : Str} {k : Nat} {a : Expr} {m : M Opd} (T : ExK X.prog X.K X.mg x F) (sup : X.mg "super" = none) (hc : X.calm = true) (tk : Takes X W) (hr : Room k X.A) (ha : SE X W a m) (hg : Gl X x) (hdb : (x == ("__debug__" : Str)) = false) (hp : plainE a = true) :
    SS X W as (.Raise (some (.Call (.Name x p) [a] [] pos)) none pos2) (sRaise x F m) := by
  obtain ⟨C, fI, cc, cda, T1, gC, nC, kC, b1, b2⟩ := T.ex
  refine (ps_raise hc tk (pmk_ex T1 gC kC b1 b2 sup hr (pa_cons ha pa_nil (star_plain hp _ _)).gh hg hdb hp)).imp fun D σ H h => ?_
  obtain ⟨σ0, H0, O0, T0, δ, ap, st, hm⟩ := h
  show tE X.K W m σ H _
  refine ⟨H0, O0, T0, δ, st, ?_⟩
  unfold sRaise bnd at hm
  cases e1 : m δ with
  | bad => simp only [e1] at hm; exact hm
  | exn y δ1 => simp only [e1] at hm; exact fun cls d H' a b => hm cls d σ H' ap a b
  | ok o δ1 =>
    simp only [e1] at hm
    intro v H1 ov st1
    cases e2 : takeD o δ1 with
    | bad => simp only [e2] at hm; exact hm.elim
    | exn y δ2 => exact absurd e2 takeD_noexn
    | ok d δ2 =>
      simp only [e2] at hm
      refine takeD_gh ov st1 e2 fun H2 _ st2 iv => ⟨v, rfl, fun dd hd => ?_⟩
      have sy : Stays H2 (upd H2 dd (.xd [(F, v)])) := (Kp.new (O := []) hd).stays fun b hb => by simp at hb
      refine hm (.ref C) (some dd) σ _ ap ⟨C, rfl, nC, .inr ⟨dd, [(F, v)], [d], rfl, upd_same, .cons (iv.stays sy) .nil, rfl⟩⟩ ?_
      exact Ste.step (Tc := []) (Tn := []) st2 fun oc hc nd => by
        cases hc
        exact ⟨[], .nil, List.nodup_nil, (fun a ha => by simp at ha), Kp.new hd⟩
end
end Ev

/-! D23: try .. except X as e: return (text, e.f). -/
namespace Ev
open PySem PySem.Spec L2
open PyProof.Rows hiding St

/-- an own exception class that is caught, and whose field is read -/
structure ExC (K : PySem.W.Frag) (mg : Str → Option Value) (x F : Str) : Prop where
  ex : ∃ C, mg x = some (.ref C) ∧ PySem.W.nsIn K mainGlobals x = some (some (.ref C)) ∧ PySem.W.exmOne K (.ref C) (.ref C) = some true ∧ XfC K C ∧ PySem.W.findIn K (.ref C) F = some none
/-- try: body; except x as ..: return (c, it.F) -/
def sTryRet (x F : Str) (i : Nat) (c : PyData) (mb : M Flw) : M Flw := fun δ => match mb δ with
  | .exn e δ1 => if e.cls = x ∧ i < δ1.length then match e.fs.lookup F with
      | some d => .ok (.rt (.dat (.tuple [c, d]))) δ1
      | none => .bad
    else .bad
  | r => r
theorem lookup_zip {K : PySem.W.Frag} {H : Hp} {F : Str} {d : PyData} : ∀ {fs : List (Str × V)} {ds : List PyData}, IsAll K H (fs.map (·.2)) ds → ((fs.map (·.1)).zip ds).lookup F = some d → ∃ v, fs.lookup F = some v ∧ IsD K H v d
  | [], _, _, h => by simp at h
  | f :: fs, e :: ds, .cons a t, h => by
    obtain ⟨f1, f2⟩ := f
    simp only [List.map_cons, List.zip_cons_cons, List.lookup] at h ⊢
    by_cases q : (F == f1) = true
    · simp only [q] at h ⊢
      cases h
      exact ⟨f2, rfl, a⟩
    · have q' : (F == f1) = false := by simpa using q
      simp only [q'] at h ⊢
      exact lookup_zip t h
section
variable {X : Cx} {W : WX} {as : List Nat} {pos pos' np p1 p2 p3 p4 p5 : Pos}
theorem ss_tryRet {x n F : Str} {i : Nat} {body : List Stmt} {mb : M Flw} {z : Str} {k k2 : Nat} (hs : X.stack = X.env :: X.outer) (hf : X.env.frame = some X.env.locals) (hN : X.N.Nodup) (hi : X.N[i]? = some n) (hln : X.env.kindOf n = some .local) (T : ExC X.K X.mg x F) (hg : Gl X x) (hd : (x == ("__debug__" : Str)) = false) (tk : Takes X W)
    (hdn : (n == ("__debug__" : Str)) = false) (hcn : (n == ("__classdict__" : Str)) = false)
    (hb : ∀ (W' : WX) (pn : List (Addr × Obj)) (xe : Value → Shared → Prop), Takes (X.tr pn xe) W' → PassesOwn (model X.prog X.w) X.A X.env xe → SSs (X.tr pn xe) W' as body mb)
    (hbase : ∀ (env : Env), attributeBase (.Name n p1) F env (eval (.Name n p1) env) = eval (.Name n p1) env) :
    SS X W as (.Try body [.ExceptHandler (some (.Name x np)) (some n) [.Return (some (.Tuple [.Constant (.str z) k p3, .Attribute (.Name n p1) F p2] k2 p4)) p5] pos'] [] [] pos) (sTryRet x F i (.str z) mb) := by
  obtain ⟨C, gC, nC, exm, XF, hno⟩ := T.ex
  refine (ps_try_as (i := i) (c := .ref C) (tb := fun W' => tS X.K W' as mb) (ts := fun a cls d => tRet (tTup (tCons (tC (.str z)) (tCons (tXf a cls d C F (tVar i)) tNil)))) (Wout := W) hs hf hN hi hln ⟨hg, hd, .inl gC⟩ tk hb (fun a oe cls d pn hz hfs => ?_)).imp fun D σ H h => ?_
  · exact pss_one (ps_ret (pe_tup (pa_cons pe_str (pa_cons (pe_xf XF hno hz hfs (pe_var (X := X.suite a ((a, oe) :: pn)) hi (.inl hln) hdn hcn) (hbase _)) pa_nil))))
  · obtain ⟨σ0, H0, O0, T0, δ, ap, st, hm⟩ := h
    refine ⟨σ0, H0, O0, T0, δ, ap, st, ?_⟩
    unfold sTryRet at hm
    cases e1 : mb δ with
    | bad => simp only [e1] at hm; exact hm
    | ok f δ1 =>
      simp only [e1] at hm
      cases f <;> exact hm
    | exn e δ1 =>
      simp only [e1] at hm
      by_cases hx : e.cls = x ∧ i < δ1.length
      · simp only [if_pos hx] at hm
        cases e2 : e.fs.lookup F with
        | none => simp only [e2] at hm; exact hm.elim
        | some dd =>
          simp only [e2] at hm
          intro cls d σ' H' ap' ex st'
          obtain ⟨C', ec, n', fld⟩ := ex
          rw [hx.1, nC] at n'
          cases n'
          subst ec
          refine ⟨true, exm, fun _ a na => ?_, fun z => by cases z⟩
          rcases fld with ⟨_, hnil⟩ | ⟨da, fs, ds, rfl, hda, hall, hfs⟩
          · rw [hnil] at e2; cases e2
          · rw [hfs] at e2
            obtain ⟨v, lv, iv⟩ := lookup_zip hall e2
            have li : i < σ'.length := by
              obtain ⟨L, zz, _⟩ := st'
              rw [zz.length]; exact hx.2
            refine ⟨_, ?_, rfl, rfl, da, fs, v, rfl, hda, lv, ?_⟩
            · rw [List.getElem?_set_self li]
            · refine ⟨by show 2 ≤ sizeLine; rw [sizeLine_eq]; omega, fun p hp => ?_⟩
              exact hm (.ref p) σ' _ ap' (st'.res (Res.tup hp (.cons (.str z) (.cons iv .nil))))
      · simp only [if_neg hx] at hm
        exact hm.elim
end
end Ev

/-! D24: a head's hook that also sees the interpreter's settings; facts of own exception classes. -/
namespace Hz
open PySem PySem.Spec PyProof.Rows L2 He

def asZ (g : Addr → Option Obj) : Nat → List Addr
  | 0 => [mainGlobals, cStatics]
  | n + 1 => growD g (asZ g n)
/-- what is observed of such an __init__: all but addresses -/
abbrev FnS : Type := Option (Str × Str × Arguments × FuncBody × Scope × Addr × List Str × Value × Addr)
def fnS (K : PySem.W.Frag) (f : Addr) : FnS := match K.lookup f with
  | some ⟨_, _, .func fd, _⟩ => some (fd.name, fd.qualname, fd.params, fd.body, fd.scope, fd.globals, fd.closure.map (·.1), fd.defaults, fd.builtins)
  | _ => none
abbrev AlZ : Type := AlD × Bool × List FnS
def inS (K : PySem.W.Frag) (xs : List (Str × FnS)) : List FnS := xs.map fun p => fnS K (ma K (ga K p.1) "__init__")
def obsZ (n : Nat) (fa : List Fa) (fn : List DefD) (ex : PySem.W.Frag → Bool) (xs : List (Str × FnS)) (g : Addr → Option Obj) : AlZ := (obsD fa fn (frG g (asZ g n)), ex (frG g (asZ g n)), inS (frG g (asZ g n)) xs)
structure SaysZ (fa : List Fa) (fn : List DefD) (ex : PySem.W.Frag → Bool) (xs : List (Str × FnS)) (K : PySem.W.Frag) : Prop where
  d : SaysD fa fn K
  more : ex K = true
  ini : inS K xs = xs.map fun p => p.2
def hookZ (n : Nat) (fa : List Fa) (fn : List DefD) (ex : PySem.W.Frag → Bool) (xs : List (Str × FnS)) : PySem.W.Hook where
  α := AlZ
  obs := fun s => obsZ n fa fn ex xs s.heap.get?
  val := fun _ => (valD fn, true, xs.map fun p => p.2)
  says := fun _ h => ∃ K : PySem.W.Frag, K.In h ∧ SaysZ fa fn ex xs K
  of := fun _ _ e => ⟨_, frG_in, congrArg (fun z : AlZ => z.1) (show (_ : AlZ) = _ from e), congrArg (fun z : AlZ => z.2.1) (show (_ : AlZ) = _ from e), congrArg (fun z : AlZ => z.2.2) (show (_ : AlZ) = (valD fn, true, xs.map fun p => p.2) from e)⟩
  keeps := fun _ _ _ ⟨K, hK, c⟩ k => ⟨K, PySem.W.Frag.In.keeps hK k, c⟩
theorem obsZ_eq {n : Nat} {fa : List Fa} {fn : List DefD} {ex : PySem.W.Frag → Bool} {xs : List (Str × FnS)} {g : Addr → Option Obj} {s : Shared} (h : ∀ a, g a = s.heap.get? a) : obsZ n fa fn ex xs g = (hookZ n fa fn ex xs).obs s := by
  have e : g = s.heap.get? := funext h
  rw [e]; rfl
theorem SaysZ.at_ {fa : List Fa} {fn : List DefD} {ex : PySem.W.Frag → Bool} {xs : List (Str × FnS)} {K : PySem.W.Frag} (c : SaysZ fa fn ex xs K) (i : Nat) {p : Str × FnS} (h : xs[i]? = some p) : fnS K (ma K (ga K p.1) "__init__") = p.2 := by
  have e : (inS K xs)[i]? = (xs.map fun p => p.2)[i]? := by rw [c.ini]
  unfold inS at e
  rw [List.getElem?_map, List.getElem?_map, h] at e
  exact Option.some.inj e
/-- the function of such an __init__, its closure's cell, its code -/
def fnOf? (K : PySem.W.Frag) (f : Addr) : Option FuncData := match K.lookup f with
  | some ⟨_, _, .func fd, _⟩ => some fd
  | _ => none
def cellOf (K : PySem.W.Frag) (f : Addr) : Addr := match fnOf? K f with
  | some fd => (match fd.closure with
    | [(_, c)] => c
    | _ => 0)
  | none => 0
def codeOfF (K : PySem.W.Frag) (f : Addr) : Addr := match fnOf? K f with
  | some fd => (match fd.code with
    | .ref c => c
    | _ => 0)
  | none => 0
def codeB (prog : Program) (K : PySem.W.Frag) (c : Addr) : Bool := match K.lookup c with
  | some ⟨_, _, .fields vs, _⟩ => (match vs[2]? with
    | some (Value.str file _) => ((prog.main.file : Str) == file)
    | _ => false)
  | _ => false
def cellB (K : PySem.W.Frag) (cc C : Addr) : Bool := match K.lookup cc with
  | some ⟨_, _, .cell (some (.ref D)), _⟩ => decide (D = C)
  | _ => false
def clsB (K : PySem.W.Frag) (C : Addr) : Bool := match PySem.W.clsIn K C with
  | some cd => PySem.HandSPX.refsVE cd.mro && cd.hasDict
  | none => false
def eqV (a b : Option (Option Value)) : Bool := decide (a = b)
def clsrB (K : PySem.W.Frag) (f : Addr) : Bool := match K.lookup f with
  | some ⟨_, _, .func fd, _⟩ => decide (fd.closure = [(("__class__" : Str), cellOf K f)]) && (decide (fd.code = .ref (codeOfF K f)) && PySem.W.codeIn K fd.code fd.qualname)
  | _ => false
/-- all that is asked of an own exception class over ValueError, but the function's text -/
def excB (prog : Program) (K : PySem.W.Frag) (x F : Str) : Bool :=
  let C := ga K x
  let f := ma K C "__init__"
  clsrB K f && (PySem.W.excInitIn K C Ev.veB "ValueError.__new__" && (eqV (PySem.W.findIn K (.ref C) "__init__") (some (some (.ref f))) && (PySem.W.isFn K (.ref f) && (codeB prog K (codeOfF K f) && (cellB K (cellOf K f) C && (clsB K C &&
    (decide (PySem.W.mroIn K C (.ref C) = some true) && ((prog.main.scope.names.lookup ("super" : Str)).isSome == false && (eqV (PySem.W.nsIn K cStatics "thirdparty.any") (some none) && (eqV (PySem.W.ks_superIn K C C "__init__") (some (some (.builtin "ValueError.__init__"))) &&
    (decide (PySem.W.subIn K (.ref C) (.type "ValueError") = some true) && (eqV (PySem.W.findIn K (.ref C) "__setattr__") (some (some (.builtin "object.__setattr__"))) && (eqV (PySem.W.findIn K (.ref C) F) (some none) && (decide (F ≠ "self") && ((F == ("__debug__" : Str)) == false &&
    (PySem.W.keepIn K (.ref C) && (decide (PySem.W.subIn K (.ref C) (.type "BaseException") = some true) && (decide (PySem.W.typeIn K (.ref C) = some (.type "type")) && (decide (PySem.W.exmOne K (.ref C) (.ref C) = some true) && xfB K C)))))))))))))))))))
structure ExcF (prog : Program) (K : PySem.W.Frag) (x F : Str) : Prop where
  a0 : clsrB K (ma K (ga K x) "__init__") = true
  a1 : PySem.W.excInitIn K (ga K x) Ev.veB "ValueError.__new__" = true
  a2 : PySem.W.findIn K (.ref (ga K x)) "__init__" = some (some (.ref (ma K (ga K x) "__init__")))
  a3 : PySem.W.isFn K (.ref (ma K (ga K x) "__init__")) = true
  a4 : codeB prog K (codeOfF K (ma K (ga K x) "__init__")) = true
  a5 : cellB K (cellOf K (ma K (ga K x) "__init__")) (ga K x) = true
  a6 : clsB K (ga K x) = true
  a7 : PySem.W.mroIn K (ga K x) (.ref (ga K x)) = some true
  a8 : (prog.main.scope.names.lookup ("super" : Str)).isSome = false
  a9 : PySem.W.nsIn K cStatics "thirdparty.any" = some none
  b1 : PySem.W.ks_superIn K (ga K x) (ga K x) "__init__" = some (some (.builtin "ValueError.__init__"))
  b2 : PySem.W.subIn K (.ref (ga K x)) (.type "ValueError") = some true
  b3 : PySem.W.findIn K (.ref (ga K x)) "__setattr__" = some (some (.builtin "object.__setattr__"))
  b4 : PySem.W.findIn K (.ref (ga K x)) F = some none
  b5 : F ≠ "self"
  b6 : (F == ("__debug__" : Str)) = false
  b7 : PySem.W.keepIn K (.ref (ga K x)) = true
  b8 : PySem.W.subIn K (.ref (ga K x)) (.type "BaseException") = some true
  b9 : PySem.W.typeIn K (.ref (ga K x)) = some (.type "type")
  c1 : PySem.W.exmOne K (.ref (ga K x)) (.ref (ga K x)) = some true
  c2 : xfB K (ga K x) = true
theorem excB_ok {prog : Program} {K : PySem.W.Frag} {x F : Str} (h : excB prog K x F = true) : ExcF prog K x F := by
  unfold excB at h
  obtain ⟨a0, h⟩ := ba h
  obtain ⟨a1, h⟩ := ba h
  obtain ⟨a2, h⟩ := ba h
  obtain ⟨a3, h⟩ := ba h
  obtain ⟨a4, h⟩ := ba h
  obtain ⟨a5, h⟩ := ba h
  obtain ⟨a6, h⟩ := ba h
  obtain ⟨a7, h⟩ := ba h
  obtain ⟨a8, h⟩ := ba h
  obtain ⟨a9, h⟩ := ba h
  obtain ⟨b1, h⟩ := ba h
  obtain ⟨b2, h⟩ := ba h
  obtain ⟨b3, h⟩ := ba h
  obtain ⟨b4, h⟩ := ba h
  obtain ⟨b5, h⟩ := ba h
  obtain ⟨b6, h⟩ := ba h
  obtain ⟨b7, h⟩ := ba h
  obtain ⟨b8, h⟩ := ba h
  obtain ⟨b9, h⟩ := ba h
  obtain ⟨c1, c2⟩ := ba h
  exact ⟨a0, a1, of_decide_eq_true a2, a3, a4, a5, a6, of_decide_eq_true a7, by simpa using a8, of_decide_eq_true a9, of_decide_eq_true b1, of_decide_eq_true b2, of_decide_eq_true b3, of_decide_eq_true b4, of_decide_eq_true b5, by simpa using b6, b7, of_decide_eq_true b8,
    of_decide_eq_true b9, of_decide_eq_true c1, c2⟩
/-- the class as the layer wants it: fn, what stands of its __init__ -/
theorem ExcF.t {prog : Program} {K : PySem.W.Frag} {x F : Str} (e : ExcF prog K x F) (i : Ev.ExI F K (ma K (ga K x) "__init__") (cellOf K (ma K (ga K x) "__init__")) (codeOfF K (ma K (ga K x) "__init__"))) :
    Ev.ExT prog F K (ga K x) (ma K (ga K x) "__init__") (cellOf K (ma K (ga K x) "__init__")) (codeOfF K (ma K (ga K x) "__init__")) := by
  refine ⟨e.a1, e.a2, e.a3, i, ?_, ?_, ?_, e.a7, e.a8, e.a9, e.b1, e.b2, e.b3, e.b4, e.b5, e.b6⟩
  · have h := e.a4
    unfold codeB at h
    split at h
    · rename_i c d vs sl lk
      split at h
      · rename_i file tf hv
        exact ⟨_, _, vs, _, file, tf, lk, hv, h⟩
      · cases h
    · cases h
  · have h := e.a5
    unfold cellB at h
    split at h
    · rename_i c d D sl lk
      have q : D = _ := of_decide_eq_true h
      subst q
      exact ⟨_, _, _, lk⟩
    · cases h
  · have h := e.a6
    unfold clsB at h
    split at h
    · rename_i cd q
      obtain ⟨h1, h2⟩ := ba h
      exact ⟨cd, q, h1, h2⟩
    · cases h
theorem ExcF.c {prog : Program} {K : PySem.W.Frag} {mg : Str → Option Value} {x F : Str} (e : ExcF prog K x F) (g : mg x = some (.ref (ga K x))) (n : PySem.W.nsIn K mainGlobals x = some (some (.ref (ga K x)))) : Ev.ExC K mg x F := ⟨_, g, n, e.c1, xfB_ok e.c2, e.b4⟩
theorem ExcF.k {prog : Program} {K : PySem.W.Frag} {mg : Str → Option Value} {x F : Str} (e : ExcF prog K x F) (i : Ev.ExI F K (ma K (ga K x) "__init__") (cellOf K (ma K (ga K x) "__init__")) (codeOfF K (ma K (ga K x) "__init__"))) (g : mg x = some (.ref (ga K x)))
    (n : PySem.W.nsIn K mainGlobals x = some (some (.ref (ga K x)))) : Ev.ExK prog K mg x F := ⟨_, _, _, _, e.t i, g, n, e.b7, e.b8, e.b9⟩
/-- what is observed of the function at f tells its data -/
theorem fnS_at {K : PySem.W.Frag} {f : Addr} {n q : Str} {a : Arguments} {b : FuncBody} {s : Scope} {g bl : Addr} {c : List Str} {d : Value} (h : fnS K f = some (n, q, a, b, s, g, c, d, bl)) (k : clsrB K f = true) :
    ∃ oc od fd osl, K.lookup f = some ⟨oc, od, .func fd, osl⟩ ∧ fd.name = n ∧ fd.qualname = q ∧ fd.params = a ∧ fd.body = b ∧ fd.scope = s ∧ fd.globals = g ∧ fd.closure = [(("__class__" : Str), cellOf K f)] ∧ fd.defaults = d ∧ fd.builtins = bl ∧ fd.code = .ref (codeOfF K f) ∧ PySem.W.codeIn K (.ref (codeOfF K f)) q = true := by
  unfold fnS at h
  unfold clsrB at k
  split at h
  · rename_i oc od fd osl lk
    rw [lk] at k
    obtain ⟨k1, k2⟩ := ba k
    obtain ⟨k2, k3⟩ := ba k2
    have h' := Option.some.inj h
    simp only [Prod.mk.injEq] at h'
    obtain ⟨h1, h2, h3, h4, h5, h6, h7, h8, h9⟩ := h'
    have e2 := of_decide_eq_true k2
    exact ⟨oc, od, fd, osl, lk, h1, h2, h3, h4, h5, h6, of_decide_eq_true k1, h8, h9, e2, by rw [← e2, ← h2]; exact k3⟩
  · cases h
/-- such an __init__ by its text -/
theorem exI_of {F : Str} {K : PySem.W.Frag} {f : Addr} {qual : Str} {params : Arguments} {body : List Stmt} {scope : Scope} (h : fnS K f = some (("__init__" : Str), qual, params, FuncBody.stmts body, scope, mainGlobals, [("__class__" : Str)], Value.none, builtinsNs)) (k : clsrB K f = true)
    (hb : ∃ p0 p1 p2 p3 p4 p5 p6 p7 p8 p9 : Pos, body = [.Expr (.Call (.Attribute (.Call (.Name "super" p0) [] [] p1) "__init__" p2) [.Name F p3] [] p4) p5, .Assign [.Attribute (.Name "self" p6) F p7] (.Name F p8) p9] ∧ (p2.endLine == p4.line) = true)
    (hp : ∃ ar, (params.posonlyargs ++ params.args).head? = some ar ∧ ar.arg = "self")
    (hbind : ∀ (kV doc pm : Value) (an : Option Addr) (ct : Value) (cc cd : Addr) (a b : Value), bindArgs (PySem.W.ksFn "__init__" qual params body scope .none kV doc pm an (.ref cd) ct cc) ⟨[a, b], []⟩ = pure [(("self" : Str), a), (F, b)])
    (h1 : scope.kind = .function) (h2 : scope.isCoroutine = false) (h3 : scope.isGenerator = false) (h4 : ∀ x ∈ scope.names, x.2 ≠ .cell) (h5 : scope.names.lookup ("self" : Str) = some .local) (h6 : scope.names.lookup F = some .local) (h7 : scope.names.lookup ("__class__" : Str) = some .free)
    (h8 : scope.names.lookup ("super" : Str) = some .globalImplicit) : Ev.ExI F K f (cellOf K f) (codeOfF K f) := by
  obtain ⟨oc, od, fd, osl, lk, e1, e2, e3, e4, e5, e6, e7, e8, e9, e10, cd⟩ := fnS_at h k
  obtain ⟨p0, p1, p2, p3, p4, p5, p6, p7, p8, p9, hb, hl⟩ := hb
  obtain ⟨ar, ha, hs⟩ := hp
  subst hb
  obtain ⟨n, q, a, b, sc, g, cl, dV, kV, doc, pm, an, cde, ct, bl⟩ := fd
  simp only at e1 e2 e3 e4 e5 e6 e7 e8 e9 e10
  subst e1 e2 e3 e4 e5 e6 e7 e8 e9 e10
  exact ⟨_, _, _, kV, doc, pm, an, ct, oc, od, osl, ar, 0, p0, p1, p2, p3, p4, p5, p6, p7, p8, p9, lk, cd, ha, hs, fun s a b => BindsTo.of_eq (hbind _ _ _ _ _ _ _ a b), h1, h2, h3, h4, h5, h6, h7, h8, hl⟩
end Hz

/-! D25: zip over any two of list, tuple, text. -/
namespace Ev
open PySem PySem.Spec L2
open PyProof.Rows hiding St

/-- what is walked by one of zip's iterators -/
inductive Kd where
  | lst (a : Addr)
  | tup (a : Addr)
  | txt (z : Str) (t : Tok)
def Kd.val : Kd → Value
  | .lst a => .ref a
  | .tup a => .ref a
  | .txt z t => .str z t
def Kd.obj : Kd → Obj
  | .lst a => { cls := .type "list_iterator", data := .fields #[.ref a, .int 0 0] }
  | .tup a => { cls := .type "tuple_iterator", data := .fields #[.ref a, .int 0 0] }
  | .txt z t => { cls := .type (strIterType z), data := .fields #[.str z t, .int 0 0] }
def Kd.it (k : Kd) (b : Addr) (i : Nat) (h : Heap) : Prop := match k with
  | .lst a => h.IsListIter b a i
  | .tup a => h.IsTupleIter b a i
  | .txt z t => h.IsStrIter b (strIterType z) z t i
def chars (z : Str) : List V := z.cps.toList.map fun c => .str ⟨#[c]⟩
def Kd.has (K : PySem.W.Frag) (H : Hp) (k : Kd) (xs : List V) : Prop := match k with
  | .lst a => SqL K H a xs
  | .tup a => SqT K H a xs
  | .txt z _ => xs = chars z
def Kd.at (k : Kd) (b : Addr) : Prop := match k with
  | .lst a => b = a
  | .tup a => b = a
  | .txt _ _ => False
section
variable {X : Cx} {pins : List (Addr × Obj)} {σ : St} {H : Hp} {s : Shared}
theorem Kd.there {k : Kd} {b : Addr} {i : Nat} {h : Heap} (q : k.it b i h) : ∃ o, h.get? b = some o ∧ ∀ v, o.data ≠ .cell v := by
  cases k with
  | lst a => obtain ⟨o, e, _, d⟩ := q; exact ⟨o, e, fun v z => by rw [d] at z; cases z⟩
  | tup a => obtain ⟨o, e, _, d⟩ := q; exact ⟨o, e, fun v z => by rw [d] at z; cases z⟩
  | txt z t => obtain ⟨o, e, _, d⟩ := q; exact ⟨o, e, fun v z => by rw [d] at z; cases z⟩
theorem Kd.keep {k : Kd} {b : Addr} {i : Nat} {h h' : Heap} (q : k.it b i h) (e : ∀ o, h.get? b = some o → h'.get? b = some o) : k.it b i h' := by
  cases k with
  | lst a => obtain ⟨o, x, r⟩ := q; exact ⟨o, e o x, r⟩
  | tup a => obtain ⟨o, x, r⟩ := q; exact ⟨o, e o x, r⟩
  | txt z t => obtain ⟨o, x, r⟩ := q; exact ⟨o, e o x, r⟩
theorem Kd.new {k : Kd} {b : Addr} {h : Heap} (e : h.get? b = some k.obj) : k.it b 0 h := by
  cases k with
  | lst a => exact ⟨_, e, rfl, rfl⟩
  | tup a => exact ⟨_, e, rfl, rfl⟩
  | txt z t => exact ⟨_, e, rfl, rfl⟩
theorem Kd.inj {k : Kd} {xs ys : List V} (I : Inv X pins σ H s) (h : k.has X.K H xs) (h' : k.has X.K H ys) : xs = ys := by
  cases k with
  | lst a => exact I.list_inj h h'
  | tup a => exact I.tuple_inj h h'
  | txt z t => exact h.trans h'.symm
theorem vals_getR : ∀ {xs : List V} {us : List Value} {i : Nat} {u : Value}, Vals xs us → us[i]? = some u → ∃ x, xs[i]? = some x ∧ RelV x u
  | _, _, _, _, .nil, e => by simp at e
  | _, _, 0, _, .cons r _, e => by simp at e; subst e; exact ⟨_, rfl, r⟩
  | _, _, i + 1, x, .cons _ t, e => by
    obtain ⟨y, e', r⟩ := vals_getR t (i := i) (u := x) (by simpa using e)
    exact ⟨y, by simpa using e', r⟩
/-- the library's word for such an iterator, at this heap -/
theorem Kd.draws {k : Kd} {xs : List V} (I : Inv X pins σ H s) (hh : X.A.handled = none) (h : k.has X.K H xs) (b : Addr) (hb : ¬ k.at b) : ∃ (fp : List Addr) (P : Nat → Value → Prop) (Sx : Nat → Heap → Prop), Draws X.prog X.w X.A.in1 b fp xs.length P Sx ∧ b ∈ fp ∧ (∀ c ∈ fp, c = b ∨ k.at c) ∧
    (∀ i, k.it b i s.heap → Sx i s.heap) ∧ (∀ i h', Sx i h' → k.it b i h') ∧ ∀ i v, P i v → ∃ x, xs[i]? = some x ∧ RelV x v := by
  cases k with
  | lst a =>
    obtain ⟨its, rv, p, _⟩ := I.list h
    have l := rv.length
    refine ⟨[b, a], (fun i v => its.toArray[i]? = some v), (fun i h => h.IsListIter b a i ∧ h.IsList a its.toArray), by have := Draws.list (prog := X.prog) (w := X.w) (A := X.A.in1) hh b a (fun z => hb z.symm) its.toArray; rw [List.size_toArray, ← l] at this; exact this, by simp, fun c hc => ?_, fun i q => ⟨q, p.isList⟩, fun i h' q => q.1, fun i v q => ?_⟩
    · simp at hc
      rcases hc with rfl | rfl
      · exact .inl rfl
      · exact .inr rfl
    · have q' : its[i]? = some v := by simpa using q
      obtain ⟨x, e, r⟩ := vals_getR rv q'
      exact ⟨x, e, r⟩
  | tup a =>
    obtain ⟨its, rv, p, _⟩ := I.tuple h
    have l := rv.length
    refine ⟨[b, a], (fun i v => its.toArray[i]? = some v), (fun i h => h.IsTupleIter b a i ∧ h.IsTuple a its.toArray), by have := Draws.tuple (prog := X.prog) (w := X.w) (A := X.A.in1) hh b a (fun z => hb z.symm) its.toArray; rw [List.size_toArray, ← l] at this; exact this, by simp, fun c hc => ?_, fun i q => ⟨q, p⟩, fun i h' q => q.1, fun i v q => ?_⟩
    · simp at hc
      rcases hc with rfl | rfl
      · exact .inl rfl
      · exact .inr rfl
    · have q' : its[i]? = some v := by simpa using q
      obtain ⟨x, e, r⟩ := vals_getR rv q'
      exact ⟨x, e, r⟩
  | txt z t =>
    have hx : xs = chars z := h
    subst hx
    have l : (chars z).length = z.cps.size := by simp [chars]
    rw [l]
    refine ⟨[b], _, _, Draws.text (A := X.A.in1) hh b z t, by simp, fun c hc => .inl (by simpa using hc), fun i q => q, fun i h' q => q, fun i v q => ?_⟩
    obtain ⟨c, u, e, rfl⟩ := q
    exact ⟨.str ⟨#[c]⟩, by simp [chars, e], ⟨u, rfl⟩⟩
/-- the two as they stand at each turn, the items in new pairs -/
def Itzz (K : PySem.W.Frag) (k1 k2 : Kd) : It :=
  ⟨fun i H => ∃ xs ys, k1.has K H xs ∧ k2.has K H ys ∧ i < xs.length ∧ i < ys.length,
    fun i H v H' => ∃ T x y, v = .ref T ∧ H T = none ∧ H' = upd H T (.tup [x, y]) ∧ (∀ xs, k1.has K H xs → xs[i]? = some x) ∧ ∀ ys, k2.has K H ys → ys[i]? = some y,
    fun i H => ∃ xs ys, k1.has K H xs ∧ k2.has K H ys ∧ i ≤ xs.length ∧ i ≤ ys.length ∧ (i = xs.length ∨ i = ys.length)⟩
/-- the cells lie apart -/
structure Zap (z TI TO i1 i2 : Addr) (k1 k2 : Kd) : Prop where
  a1 : TI ≠ z
  a2 : TO ≠ z
  a3 : TI ≠ TO
  a4 : TI ≠ i1
  a5 : TI ≠ i2
  a6 : z ≠ i1
  a7 : z ≠ i2
  a8 : TO ≠ i1
  a9 : TO ≠ i2
  b1 : i1 ≠ i2
  c1 : ∀ c, k1.at c ∨ k2.at c → c ≠ z ∧ c ≠ TO ∧ c ≠ i1 ∧ c ≠ i2
theorem Zap.sep {z TI TO i1 i2 : Addr} {k1 k2 : Kd} (D : Zap z TI TO i1 i2 k1 k2) {fp1 fp2 : List Addr} (m1 : i1 ∈ fp1) (m2 : i2 ∈ fp2) (f1 : ∀ c ∈ fp1, c = i1 ∨ k1.at c) (f2 : ∀ c ∈ fp2, c = i2 ∨ k2.at c) : ZipSep2 z TI TO i1 i2 fp1 fp2 :=
  { TIz := D.a1, TOz := D.a2, TITO := D.a3, TIi1 := D.a4, mem1 := m1, TIi2 := D.a5, mem2 := m2,
    zf1 := fun q => by rcases f1 _ q with e | e; exact D.a6 e; exact (D.c1 _ (.inl e)).1 rfl
    Tf1 := fun q => by rcases f1 _ q with e | e; exact D.a8 e; exact (D.c1 _ (.inl e)).2.1 rfl
    zf2 := fun q => by rcases f2 _ q with e | e; exact D.a7 e; exact (D.c1 _ (.inr e)).1 rfl
    Tf2 := fun q => by rcases f2 _ q with e | e; exact D.a9 e; exact (D.c1 _ (.inr e)).2.1 rfl
    sep1_2 := fun q => by rcases f2 _ q with e | e; exact D.b1 e; exact (D.c1 _ (.inr e)).2.2.1 rfl
    sep2_1 := fun q => by rcases f1 _ q with e | e; exact D.b1 e.symm; exact (D.c1 _ (.inl e)).2.2.2 rfl }
end
theorem turn_zz {P : Program} {w : World} {K : PySem.W.Frag} {elts : List Expr} {kk : Nat} {tpos : Pos} {z TI TO i1 i2 : Addr} {k1 k2 : Kd} (D : Zap z TI TO i1 i2 k1 k2) :
    Turn P w K (.Tuple elts kk tpos) (Itzz K k1 k2) [z, TI, TO, i1, i2] z (fun i h => IsZip h z TI TO .none ∧ IsTupOf2 h TI (.ref i1) (.ref i2) ∧ (∃ x y, IsTupOf2 h TO x y) ∧ k1.it i1 i h ∧ k2.it i2 i h) where
  mem := by simp
  obj := fun i h st c hc => by
    obtain ⟨hz, hTI, ⟨x, y, hTO⟩, h1, h2⟩ := st
    have e' : c = z ∨ c = TI ∨ c = TO ∨ c = i1 ∨ c = i2 := by simpa using hc
    rcases e' with rfl | rfl | rfl | rfl | rfl
    · exact ⟨_, hz, fun v q => nomatch q⟩
    · exact ⟨_, hTI, fun v q => nomatch q⟩
    · exact ⟨_, hTO, fun v q => nomatch q⟩
    · exact Kd.there (k := k1) h1
    · exact Kd.there (k := k2) h2
  keep := fun i h h' st k => by
    obtain ⟨hz, hTI, ⟨x, y, hTO⟩, h1, h2⟩ := st
    exact ⟨k z (by simp) _ hz, k TI (by simp) _ hTI, ⟨x, y, k TO (by simp) _ hTO⟩, Kd.keep (k := k1) h1 (k i1 (by simp)), Kd.keep (k := k2) h2 (k i2 (by simp))⟩
  item := by
    intro X hP hw hK hc i pins s σ H E I hf st hg
    subst hP hw hK
    obtain ⟨hz, hTI, ⟨x0, y0, hTO⟩, h1, h2⟩ := st
    obtain ⟨xs, ys, hx, hy, l1, l2⟩ := hg
    obtain ⟨fp1, P1, S1, D1, m1, f1, u1, v1, w1⟩ := Kd.draws I (I.ok.hd hc) hx i1 (fun q => (D.c1 _ (.inl q)).2.2.1 rfl)
    obtain ⟨fp2, P2, S2, D2, m2, f2, u2, v2, w2⟩ := Kd.draws I (I.ok.hd hc) hy i2 (fun q => (D.c1 _ (.inr q)).2.2.2 rfl)
    have hzl : z < s.heap.objs.size := Heap.lt_size hz
    refine wpAny_pyNext_zipD2_item (D.sep m1 m2 f1 f2) D1 D2 hz hTI hTO (u1 i h1) (u2 i h2) l1 l2 fun x1 x2 h' tk p1 p2 z' TO' s1 s2 hT hsz hk => ?_
    obtain ⟨x, ex, rx⟩ := w1 i x1 p1
    obtain ⟨y, ey, ry⟩ := w2 i x2 p2
    refine ⟨_, rfl, wpAny_letOwnedTupleGo_zip (s := { s with heap := h', toks := tk }) z' fun h'' z'' sb => ?_⟩
    have hT2 : h''.get? s.heap.objs.size = some { cls := .type "tuple", data := .seq #[x1, x2] } := (sb.2 _ (Nat.ne_of_gt hzl)).trans hT
    have new : ObjOk X.prog X.w (upd H s.heap.objs.size (.tup [x, y])) h'' s.heap.objs.size (.tup [x, y]) := ⟨by show 2 ≤ sizeLine; decide, [x1, x2], .cons rx (.cons ry .nil), ⟨_, hT2, rfl, _, rfl⟩⟩
    have I1 : Inv X pins σ (upd H s.heap.objs.size (.tup [x, y])) { s with heap := h'', toks := tk } :=
      I.turnedNew (t' := tk) (ch := [z, TI, TO, i1, i2]) (fun c o hb q => (sb.2 c (fun q' => hb (by simp [q']))).trans (hk c o (fun q' => hb (by simp [q'])) (fun q' => hb (by simp [q'])) (fun q' => hb (by simp [q'])) (fun q' => hb (by simp [q'])) q)) hf (Nat.le_refl _) new
    refine ⟨.ref s.heap.objs.size, _, I1, rfl, ⟨_, x, y, rfl, I.hok.fresh (Nat.le_refl _), rfl, fun l hl => by rw [Kd.inj I hl hx]; exact ex, fun l hl => by rw [Kd.inj I hl hy]; exact ey⟩, ⟨z'', ?_, ⟨x1, x2, ?_⟩, ?_, ?_⟩, fun c hcm => ?_⟩
    · exact (sb.2 _ D.a1).trans (hk _ _ D.a1 D.a3 D.a4 D.a5 hTI)
    · exact (sb.2 _ D.a2).trans TO'
    · exact Kd.keep (k := k1) (v1 _ _ s1) fun o q => (sb.2 _ (Ne.symm D.a6)).trans q
    · exact Kd.keep (k := k2) (v2 _ _ s2) fun o q => (sb.2 _ (Ne.symm D.a7)).trans q
    · have hlt : c < s.heap.objs.size := by
        have e' : c = z ∨ c = TI ∨ c = TO ∨ c = i1 ∨ c = i2 := by simpa using hcm
        rcases e' with rfl | rfl | rfl | rfl | rfl
        · exact hzl
        · exact Heap.lt_size hTI
        · exact Heap.lt_size hTO
        · obtain ⟨_, e1, _⟩ := Kd.there (k := k1) h1; exact Heap.lt_size e1
        · obtain ⟨_, e2, _⟩ := Kd.there (k := k2) h2; exact Heap.lt_size e2
      rw [upd_ne (Nat.ne_of_lt hlt)]
      exact (hf c hcm).1
  done := by
    intro X hP hw hK hc i pins s σ H E I hf st hg
    subst hP hw hK
    obtain ⟨hz, hTI, ⟨x0, y0, hTO⟩, h1, h2⟩ := st
    obtain ⟨xs, ys, hx, hy, l1, l2, le⟩ := hg
    obtain ⟨fp1, P1, S1, D1, m1, f1, u1, v1, w1⟩ := Kd.draws I (I.ok.hd hc) hx i1 (fun q => (D.c1 _ (.inl q)).2.2.1 rfl)
    obtain ⟨fp2, P2, S2, D2, m2, f2, u2, v2, w2⟩ := Kd.draws I (I.ok.hd hc) hy i2 (fun q => (D.c1 _ (.inr q)).2.2.2 rfl)
    exact wpAny_pyNext_zipD2_end (D.sep m1 m2 f1 f2) D1 D2 hz hTI hTO (u1 i h1) (u2 i h2) l1 l2 le fun h' tk hk => ⟨rfl, I.turnedL (t' := tk) (ch := [z, TI, TO, i1, i2]) (fun c o hb q =>
      hk c o (fun q' => hb (by simp [q'])) (fun q' => hb (by simp [q'])) (fun q' => hb (by simp [q'])) (fun q' => hb (by simp [q'])) q) hf⟩
  self := fun A i s Q E st h => wpAny_pyIter_zip st.1 h
/-- the kind of data that zip walks -/
theorem kd_of {X : Cx} {pins : List (Addr × Obj)} {σ : St} {H : Hp} {s : Shared} {v : V} {u : Value} {d : PyData} {ds : List PyData} (I : Inv X pins σ H s) (r : RelV v u) (i : IsD X.K H v d) (e : itemsOf d = some ds) :
    ∃ k : Kd, k.val = u ∧ (∃ xs, k.has X.K H xs) ∧ (∀ c, k.at c → c < s.heap.objs.size) ∧ ∃ Hx : Heap → Prop, Begins u k.obj Hx ∧ Hx s.heap ∧
      ∃ E : List (V × SV), (∀ e ∈ E, ∃ o, Ent X.K H e o ∧ o = []) ∧ ∀ H', Stand X.K E H' → ∃ xs, k.has X.K H' xs ∧ IsAll X.K H' xs ds := by
  cases d with
  | list zs =>
    cases e
    generalize hd : PyData.list ds = dd at i
    cases i with
    | @lst a xs _ hf t =>
      cases hd
      cases r
      obtain ⟨its, rv, p, _⟩ := I.list (hf.elim fun o h => .inl (.inr ⟨o, h⟩))
      have hs : SqL X.K H a xs := hf.elim fun o h => .inl (.inr ⟨o, h⟩)
      refine ⟨.lst a, rfl, ⟨xs, hs⟩, fun c q => by cases q; exact p.lt, _, begins_list a its.toArray, p.isList, [(.ref a, .dat (.list ds))], fun e he => ?_, fun H' st => ?_⟩
      · simp at he; subst he; exact ⟨[], .dat (.lst hf t), rfl⟩
      · obtain ⟨vs, h, t'⟩ := frl_list (stand_dat st List.mem_cons_self)
        exact ⟨vs, h.elim fun o q => .inl (.inr ⟨o, q⟩), t'⟩
    | _ => cases hd
  | tuple zs =>
    cases e
    generalize hd : PyData.tuple ds = dd at i
    cases i with
    | @tup a xs _ hs t =>
      cases hd
      cases r
      obtain ⟨its, rv, p, _⟩ := I.tuple hs
      refine ⟨.tup a, rfl, ⟨xs, hs⟩, fun c q => by cases q; obtain ⟨o, e, _⟩ := p; exact Heap.lt_size e, _, begins_tuple a its.toArray, p, [(.ref a, .dat (.tuple ds))], fun e he => ?_, fun H' st => ?_⟩
      · simp at he; subst he; exact ⟨[], .dat (.tup hs t), rfl⟩
      · obtain ⟨vs, h, t'⟩ := sqt_tup (stand_dat st List.mem_cons_self)
        exact ⟨vs, h, t'⟩
    | _ => cases hd
  | str z =>
    cases i
    obtain ⟨t, rfl⟩ := r
    have e' : ds = z.cps.toList.map fun c => .str ⟨#[c]⟩ := (Option.some.inj e).symm
    refine ⟨.txt z t, rfl, ⟨chars z, rfl⟩, fun c q => q.elim, _, begins_text z t, trivial, [], fun e he => by simp at he, fun H' _ => ⟨chars z, rfl, ?_⟩⟩
    rw [e']
    unfold chars
    induction z.cps.toList with
    | nil => exact .nil
    | cons c cs ih => exact .cons (.str _) ih
  | none => cases e
  | bool _ => cases e
  | int _ => cases e
  | dict _ => cases e
/-- zip(a, b) -/
def itZip (ms : List (M Opd)) : M (List PyData) := bnd (evs ms) fun os => bnd (takes os) fun ds => match ds with
  | [d1, d2] => match itemsOf d1, itemsOf d2 with
    | some xs, some ys => ret ((xs.zip ys).map fun p => .tuple [p.1, p.2])
    | _, _ => stuck
  | _ => stuck
def iZz (K : PySem.W.Frag) (ta : TA) : TI := fun σ H R => ta σ H fun vs H1 => ∃ v1 v2 d1 d2 xs ys, vs = [v1, v2] ∧ IsD K H1 v1 d1 ∧ IsD K H1 v2 d2 ∧ itemsOf d1 = some xs ∧ itemsOf d2 = some ys ∧
  ∀ (k1 k2 : Kd) (E : List (V × SV)), (∀ e ∈ E, ∃ o, Ent K H1 e o ∧ o = []) → (∀ H', Stand K E H' → ∃ as bs, k1.has K H' as ∧ k2.has K H' bs ∧ IsAll K H' as xs ∧ IsAll K H' bs ys) → R (Itzz K k1 k2) H1
section
variable {X : Cx} {W : WX} {as : List Nat} {pos p p2 tpos : Pos}
theorem pi_zz {e e2 : Expr} {ta : TA} {elts : List Expr} {kk : Nat} {x : Str} (hx : x = "zip") (hg : Gl X x) (hm : X.mg x = none) (ha : PA X [e, e2] ta) (hp : plainE e = true) (hp2 : plainE e2 = true) : PI X (.Tuple elts kk tpos) (.Call (.Name x p) [e, e2] [] pos) (iZz X.K ta) := by
  subst hx
  refine ⟨fun pins s σ H R I h => ?_⟩
  refine Call_ (ld_blt I hg hm PyProof.Rows.boot_zip (PyProof.Rows.callWith_type1 (thn (ha.run pos pins s σ H _ I h) fun us s1 ⟨vs, H1, I1, r1, q1⟩ => ?_) (star_plain hp _ _) (by rw [star_plain hp2]; rfl)))
  obtain ⟨v1, v2, d1, d2, xs, ys, rfl, i1, i2, e1, e2, q⟩ := q1
  cases r1 with
  | cons r rr =>
    cases rr with
    | cons r' rr =>
      cases rr
      obtain ⟨k1, rfl, ⟨as1, hs1⟩, lt1, Hx1, B1, b1, E1, en1, st1⟩ := kd_of I1 r i1 e1
      obtain ⟨k2, rfl, ⟨as2, hs2⟩, lt2, Hx2, B2, b2, E2, en2, st2⟩ := kd_of I1 r' i2 e2
      refine zip_begins2 B1 B2 b1 b2 fun h' hz hTI hTO h1 h2 hsz hk => wpAny_pyIter_zip hz ?_
      have I2 : Inv X pins σ H1 { s1 with heap := h' } := I1.kept (t' := s1.toks) hk
      have D : Zap (s1.heap.objs.size + 4) (s1.heap.objs.size + 2) (s1.heap.objs.size + 3) s1.heap.objs.size (s1.heap.objs.size + 1) k1 k2 := by
        refine ⟨?_, ?_, ?_, ?_, ?_, ?_, ?_, ?_, ?_, ?_, fun c hc => ?_⟩
        all_goals first
          | (show (_ : Nat) ≠ _; omega)
          | skip
        have : c < s1.heap.objs.size := by rcases hc with q | q; exact lt1 c q; exact lt2 c q
        refine ⟨?_, ?_, ?_, ?_⟩
        · exact Nat.ne_of_lt (Nat.lt_of_lt_of_le this (Nat.le_add_right _ _))
        · exact Nat.ne_of_lt (Nat.lt_of_lt_of_le this (Nat.le_add_right _ _))
        · exact Nat.ne_of_lt this
        · exact Nat.ne_of_lt (Nat.lt_of_lt_of_le this (Nat.le_add_right _ _))
      refine ⟨s1.heap.objs.size + 4, [s1.heap.objs.size + 4, s1.heap.objs.size + 2, s1.heap.objs.size + 3, s1.heap.objs.size, s1.heap.objs.size + 1], _, _, H1, rfl, I2, turn_zz D, ⟨hz, hTI, ⟨_, _, hTO⟩, Kd.new h1, Kd.new h2⟩, fun c hcm => ?_, q k1 k2 (E1 ++ E2) (fun e he => ?_) fun H' st => ?_⟩
      · have e' : c = s1.heap.objs.size + 4 ∨ c = s1.heap.objs.size + 2 ∨ c = s1.heap.objs.size + 3 ∨ c = s1.heap.objs.size ∨ c = s1.heap.objs.size + 1 := by simpa using hcm
        have hle : s1.heap.objs.size ≤ c := by
          rcases e' with rfl | rfl | rfl | rfl | rfl
          · exact Nat.le_add_right _ _
          · exact Nat.le_add_right _ _
          · exact Nat.le_add_right _ _
          · exact Nat.le_refl _
          · exact Nat.le_add_right _ _
        exact I1.fpOk hle (I1.hok.fresh hle)
      · rcases List.mem_append.mp he with m | m
        · exact en1 e m
        · exact en2 e m
      · obtain ⟨as, a1, a2⟩ := st1 H' fun e he => st e (List.mem_append_left _ he)
        obtain ⟨bs, b1, b2⟩ := st2 H' fun e he => st e (List.mem_append_right _ he)
        exact ⟨as, bs, a1, b1, a2, b2⟩
theorem Ste.more {K : PySem.W.Frag} {H0 H : Hp} {O0 : List Addr} {σ : St} {δ : DS} {T : List (V × SV)} (st : Ste K H0 O0 σ H δ T) : ∀ {E : List (V × SV)}, (∀ e ∈ E, ∃ o, Ent K H e o ∧ o = []) → Ste K H0 O0 σ H δ (E ++ T)
  | [], _ => st
  | e :: E, h => by
    obtain ⟨o, en, rfl⟩ := h e List.mem_cons_self
    exact Ste.step (Tc := []) (Tn := [e]) (st.more fun x hx => h x (List.mem_cons_of_mem _ hx)) fun oc hc nd => by
      cases hc
      exact ⟨[] ++ [], Ents.cons en .nil, by simp, (fun a ha => by simp at ha), Kp.refl _ _⟩
theorem si_zip {e e2 : Expr} {elts : List Expr} {kk : Nat} {x : Str} {ms : List (M Opd)} (hx : x = "zip") (hg : Gl X x) (hm : X.mg x = none) (ha : SA X W [e, e2] (evs ms)) (hp : plainE e = true) (hp2 : plainE e2 = true) : SI X W (.Tuple elts kk tpos) (.Call (.Name x p) [e, e2] [] pos) (itZip ms) :=
  (pi_zz hx hg hm ha.gh hp hp2).imp fun σ H R h => by
    obtain ⟨H0, O0, T, δ, st, hm⟩ := h
    refine ⟨H0, O0, T, δ, st, ?_⟩
    unfold itZip bnd at hm
    cases e1 : evs ms δ with
    | bad => simp only [e1] at hm
    | exn y δ1 => simp only [e1] at hm; exact hm
    | ok os δ1 =>
      simp only [e1] at hm
      intro vs H1 ov st1
      cases e2 : takes os δ1 with
      | bad => simp only [e2] at hm
      | exn y δ2 =>
        exfalso
        have noexn : ∀ {os : List Opd} {δ δ' : DS} {x : Exn}, takes os δ ≠ .exn x δ' := by
          intro os
          induction os with
          | nil => intro δ δ' x h; cases h
          | cons o os ih =>
            intro δ δ' x h
            unfold takes bnd at h
            cases e1 : takeD o δ with
            | bad => simp only [e1] at h; cases h
            | exn y δ1 => exact takeD_noexn e1
            | ok d δ1 =>
              simp only [e1] at h
              cases e2 : takes os δ1 with
              | bad => simp only [e2] at h; cases h
              | exn y δ2 => exact ih e2
              | ok ds δ2 => simp only [e2, ret] at h; cases h
        exact noexn e2
      | ok ds δ2 =>
        simp only [e2] at hm
        refine takes_gh ov st1 e2 fun H2 _ st2 al => ?_
        match ds, al, hm with
        | [d1, d2], al, hm =>
          cases al with
          | cons i1 al =>
            cases al with
            | cons i2 al =>
              cases al
              cases q1 : itemsOf d1 with
              | none => simp only [q1, stuck] at hm
              | some xs =>
                cases q2 : itemsOf d2 with
                | none => simp only [q1, q2, stuck] at hm
                | some ys =>
                  simp only [q1, q2, ret] at hm
                  refine ⟨_, _, d1, d2, xs, ys, rfl, i1, i2, q1, q2, fun k1 k2 E en sd => hm _ H2 E (st2.more en) ⟨fun i H x H' => ∃ T x1 y1, x = .ref T ∧ H T = none ∧ H' = upd H T (.tup [x1, y1]) ∧ (∀ as, k1.has X.K H as → as[i]? = some x1) ∧ ∀ bs, k2.has X.K H bs → bs[i]? = some y1, ⟨fun i H hi g => ?_, fun H g => ?_, fun i H x H' hi g y => y⟩, fun i H x H' y g => ?_⟩⟩
                  · obtain ⟨as, bs, a1, b1, a2, b2⟩ := sd H g
                    have : i < xs.length ∧ i < ys.length := by
                      rw [List.length_map, List.length_zip] at hi
                      exact ⟨Nat.lt_of_lt_of_le hi (Nat.min_le_left _ _), Nat.lt_of_lt_of_le hi (Nat.min_le_right _ _)⟩
                    exact ⟨as, bs, a1, b1, by rw [a2.length]; exact this.1, by rw [b2.length]; exact this.2⟩
                  · obtain ⟨as, bs, a1, b1, a2, b2⟩ := sd H g
                    refine ⟨as, bs, a1, b1, ?_⟩
                    simp only [List.length_map, List.length_zip]
                    have l1 := a2.length
                    have l2 := b2.length
                    refine ⟨?_, ?_, ?_⟩ <;> omega
                  · obtain ⟨as, bs, a1, b1, a2, b2⟩ := sd H g
                    obtain ⟨T, x1, y1, rfl, hT, rfl, w1, w2⟩ := y
                    obtain ⟨dx, ex, ix⟩ := a2.getV (w1 as a1)
                    obtain ⟨dy, ey, iy⟩ := b2.getV (w2 bs b1)
                    have sy : Stays H (upd H T (.tup [x1, y1])) := (Kp.new (O := []) hT).stays fun b hb => by simp at hb
                    refine ⟨Kp.new hT, .tuple [dx, dy], ?_, .tup (.inl (.inl upd_same)) (.cons (ix.stays sy) (.cons (iy.stays sy) .nil))⟩
                    rw [List.getElem?_map, (List.getElem?_zip_eq_some (z := (dx, dy))).mpr ⟨ex, ey⟩]
                    rfl
        | [], _, hm => exact hm.elim
        | [_], _, hm => exact hm.elim
        | _ :: _ :: _ :: _, _, hm => exact hm.elim
end
end Ev

/-! D26: list of a text, a text from behind. -/
namespace Ev
open PySem PySem.Spec L2
open PyProof.Rows hiding St

def gListX : PyData → Option SV
  | .str z => if z.length ≤ sizeLine then some (.lst (z.cps.toList.map fun c => .str ⟨#[c]⟩)) else none
  | d => gListOf d
/-- a text from behind -/
def revS (z : Str) : Str := ⟨((Builtin.Str.strSliceIndices none none (-1) z.length).filterMap (z.cps[·]?)).toArray⟩
def gRevX : PyData → Option SV
  | .str z => if (revS z).length ≤ sizeLine then some (.dat (.str (revS z))) else none
  | d => gRevL d
section
variable {X : Cx} {W : WX} {as : List Nat} {pos p p1 p2 p3 p4 : Pos}
theorem vals_of : ∀ {xs : List V} {us : List Value}, xs.length = us.length → (∀ (i : Nat) (x : V) (u : Value), xs[i]? = some x → us[i]? = some u → RelV x u) → Vals xs us
  | [], [], _, _ => .nil
  | [], _ :: _, h, _ => by simp at h
  | _ :: _, [], h, _ => by simp at h
  | x :: xs, u :: us, h, f => .cons (f 0 x u rfl rfl) (vals_of (by simpa using h) fun i a b h1 h2 => f (i + 1) a b (by simpa using h1) (by simpa using h2))
theorem chars_data {K : PySem.W.Frag} {H : Hp} : ∀ (cs : List Nat), IsAll K H (cs.map fun c => V.str ⟨#[c]⟩) (cs.map fun c => PyData.str ⟨#[c]⟩)
  | [] => .nil
  | c :: cs => .cons (.str _) (chars_data cs)
theorem br_listX (hc : X.calm = true) : BR X (.type "list") (g1 gListX) := by
  intro pins s σ H xs us Q I r h
  obtain ⟨ds, sv, po, e, q⟩ := h
  obtain ⟨d, ed, hd⟩ : ∃ d, ds = [d] ∧ gListX d = some sv := by
    unfold g1 at e
    split at e
    · exact ⟨_, rfl, e⟩
    · cases e
  subst ed
  cases d with
  | str z =>
    have hd : (if z.length ≤ sizeLine then some (SV.lst (z.cps.toList.map fun c => .str ⟨#[c]⟩)) else none) = some sv := hd
    · by_cases c : z.length ≤ sizeLine
      · rw [if_pos c] at hd
        cases hd
        cases po with
        | cons a t =>
          cases t
          cases a.str
          cases r with
          | cons rx rr =>
            cases rr
            obtain ⟨tk, rfl⟩ := rx
            refine call_list_str (I.ok.hd hc) z tk (fun h' tk' acc c' hk hS hi => ?_) c
            have hv : Vals (z.cps.toList.map fun c => V.str ⟨#[c]⟩) acc.toList := by
              refine vals_of (by simp [hi.1]) fun i x u h1 h2 => ?_
              obtain ⟨cc, u', e1, rfl⟩ := hi.2 i u (by simpa using h2)
              rw [List.getElem?_map, Array.getElem?_toList, e1] at h1
              cases h1
              exact ⟨u', rfl⟩
            refine ⟨.ref s.heap.objs.size, upd H s.heap.objs.size (.lst (z.cps.toList.map fun c => V.str ⟨#[c]⟩)), I.laid (t' := tk') hk (Nat.le_refl _) (show ObjOk X.prog X.w _ _ _ (.lst _) from ⟨?_, acc.toList, c', hv, by rw [Array.toArray_toList]; exact hS⟩), rfl, q _ _ (Res.lst (I.hok.fresh (Nat.le_refl _)) (chars_data _))⟩
            rw [List.length_map, Array.length_toList]
            exact c
      · rw [if_neg c] at hd; cases hd
  | list zs => exact br_list pins s σ H xs us Q I r ⟨_, sv, po, hd, q⟩
  | tuple zs => exact br_list pins s σ H xs us Q I r ⟨_, sv, po, hd, q⟩
  | none => exact br_list pins s σ H xs us Q I r ⟨_, sv, po, hd, q⟩
  | bool b => exact br_list pins s σ H xs us Q I r ⟨_, sv, po, hd, q⟩
  | int b => exact br_list pins s σ H xs us Q I r ⟨_, sv, po, hd, q⟩
  | dict b => exact br_list pins s σ H xs us Q I r ⟨_, sv, po, hd, q⟩
/-- z[::-1] -/
theorem pe_revS {e : Expr} {te : TE} {k : Nat} (he : PE X e te) : PE X (.Subscript e (.Slice none none (some (.UnaryOp .USub (.Constant (.int 1) k p1) p2)) p3) pos) (fun σ H Q => te σ H fun x H1 => ∃ z, x = .str z ∧ (revS z).length ≤ sizeLine ∧ Q (.str (revS z)) H1) := by
  refine ⟨fun pins s σ H Q I h => Subscript_ (thn (he.run pins s σ H _ I h) fun v s1 ⟨x, H1, I1, r1, z, ex, hz, q⟩ => ?_)⟩
  subst ex
  obtain ⟨t, rfl⟩ := r1
  have hst : PO X (some (.UnaryOp .USub (.Constant (.int 1) k p1) p2)) (tPart (tUn (rU fun i => .int (-i)) (tC (.int 1)))) := po_some (pe_un un_neg pe_int)
  refine wpAny_Slice (thn (po_none.run pins s1 σ H1 (fun o H2 => o = none ∧ H2 = H1) I1 ⟨rfl, rfl⟩) fun vl s2 ⟨l, H2, I2, pl, el, e2⟩ => ?_)
  subst el e2
  refine thn (po_none.run pins s2 σ H2 (fun o H3 => o = none ∧ H3 = H2) I2 ⟨rfl, rfl⟩) fun vu s3 ⟨u, H3, I3, pu, eu, e3⟩ => ?_
  subst eu e3
  refine thn (hst.run pins s3 σ H3 (fun o H4 => o = some (-1) ∧ H4 = H3) I3 ⟨1, rfl, -1, rfl, rfl, rfl⟩) fun vs s4 ⟨o, H4, I4, ps, eo, e4⟩ => ?_
  subst eo e4
  have I5 : Inv X pins σ H4 { s4 with heap := s4.heap.push { cls := .type "slice", data := .fields #[vl, vu, vs] } } := I4.kept (t' := s4.toks) fun b ob q => Heap.get?_push_of_some _ q
  cases pl
  cases pu
  cases ps with
  | int i tk =>
    show wpAny (model X.prog X.w) X.A (subscriptTail e (.Slice none none (some (.UnaryOp .USub (.Constant (.int 1) k p1) p2)) p3) (.str z t) (.ref s4.heap.objs.size)) (EP X pins σ Q) X.xe _
    refine tail_any (ops := [.str z t, .ref s4.heap.objs.size]) (typeIs_str _ z t) (PySem.F.slot_str_getitem.lookup) ?_ (by with_unfolding_all rfl)
    refine wpAny_getItem_str_slice (l := none) (u := none) (st := some (-1, tk)) ⟨_, Heap.get?_push_size _ rfl, rfl, rfl⟩ rfl ?_
    show (Made.str (revS z)).post _ _
    exact ⟨hz, .str (revS z), H4, I5.tok _, ⟨_, rfl⟩, q⟩
theorem se_rev {e : Expr} {m : M Opd} {k : Nat} (he : SE X W e m) : SE X W (.Subscript e (.Slice none none (some (.UnaryOp .USub (.Constant (.int 1) k p1) p2)) p3) pos) (eOp (g1 gRevX) [m]) := by
  refine ⟨fun pins s σ H Q I h => ?_⟩
  obtain ⟨H0, O0, T, δ, st, hm⟩ := h
  have same : ∀ {f : PyData → Option SV} {o : Opd} {δ1 : DS} {d : PyData}, m δ = .ok o δ1 → o.data δ1 = some d → eOp (g1 f) [m] δ = match f d with
      | some s => .ok (.val s) δ1
      | none => .bad := fun {f o δ1 d} e e' => by
    simp only [eOp, evs, bnd, ret, e, opN, datas, e', g1]
    cases f d <;> rfl
  cases e1 : m δ with
  | bad =>
    have : eOp (g1 gRevX) [m] δ = .bad := by simp only [eOp, evs, bnd, e1]
    rw [this] at hm
    exact hm.elim
  | exn x δ1 =>
    have h1 : eOp (g1 gRevX) [m] δ = .exn x δ1 := by simp only [eOp, evs, bnd, e1]
    have h2 : eOp (g1 gRevL) [m] δ = .exn x δ1 := by simp only [eOp, evs, bnd, e1]
    rw [h1] at hm
    exact (se_revL he).run pins s σ H Q I ⟨H0, O0, T, δ, st, by rw [h2]; exact hm⟩
  | ok o δ1 =>
    cases e2 : o.data δ1 with
    | none =>
      have : eOp (g1 gRevX) [m] δ = .bad := by simp only [eOp, evs, bnd, ret, e1, opN, datas, e2]
      rw [this] at hm
      exact hm.elim
    | some d =>
      have h1 := same (f := gRevX) e1 e2
      have h2 := same (f := gRevL) e1 e2
      rw [h1] at hm
      have other : gRevX d = gRevL d → wpAny (model X.prog X.w) X.A (eval (.Subscript e (.Slice none none (some (.UnaryOp .USub (.Constant (.int 1) k p1) p2)) p3) pos) X.env) (EP X pins σ Q) X.xe s := fun q =>
        (se_revL he).run pins s σ H Q I ⟨H0, O0, T, δ, st, by rw [h2, ← q]; exact hm⟩
      cases d with
      | str z =>
        refine (pe_revS he).run pins s σ H Q I ⟨H0, O0, T, δ, st, ?_⟩
        rw [e1]
        intro v H1 ov st1
        cases (opd_int ov st1 e2).str
        by_cases c : (revS z).length ≤ sizeLine
        · simp only [gRevX, if_pos c] at hm
          exact ⟨z, rfl, c, hm _ H1 True.intro (st1.drop.res (Res.same (.str _)))⟩
        · simp only [gRevX, if_neg c] at hm
      | list zs => exact other rfl
      | tuple zs => exact other rfl
      | none => exact other rfl
      | bool b => exact other rfl
      | int b => exact other rfl
      | dict b => exact other rfl
end
end Ev

/-! D27: running the values: the drawing functions of a law. -/
namespace Ev
noncomputable section
open PySem L2

section
variable {a b : M Flw} {δ δ' : DS} {v : SV} {x : Exn}
theorem sSeq_nx (h : a δ = .ok .nx δ') : sSeq a b δ = b δ' := by unfold sSeq bnd; rw [h]
theorem sSeq_rt (h : a δ = .ok (.rt v) δ') : sSeq a b δ = .ok (.rt v) δ' := by unfold sSeq bnd; rw [h]; rfl
theorem sSeq_ct (h : a δ = .ok .ct δ') : sSeq a b δ = .ok .ct δ' := by unfold sSeq bnd; rw [h]; rfl
theorem sSeq_exn (h : a δ = .exn x δ') : sSeq a b δ = .exn x δ' := by unfold sSeq bnd; rw [h]
theorem bnd_ok {α β : Type} {m : M α} {f : α → M β} {y : α} (h : m δ = .ok y δ') : bnd m f δ = f y δ' := by unfold bnd; rw [h]
theorem bnd_exn {α β : Type} {m : M α} {f : α → M β} (h : m δ = .exn x δ') : bnd m f δ = .exn x δ' := by unfold bnd; rw [h]
theorem sFor_ok {it : M (List PyData)} {g : TgD} {ds : List PyData} (h : it δ = .ok ds δ') : sFor it g b δ = forM g b ds δ' := bnd_ok h
theorem mIf_t {α : Type} {c : M Bool} {p q : M α} (h : c δ = .ok true δ') : mIf c p q δ = p δ' := (bnd_ok h).trans rfl
theorem mIf_f {α : Type} {c : M Bool} {p q : M α} (h : c δ = .ok false δ') : mIf c p q δ = q δ' := (bnd_ok h).trans rfl
theorem mWhile_no {t : M Bool} (h : t δ = .ok false δ') : mWhile t b δ = .ok .nx δ' := by rw [mWhile_eq, bnd_ok h]; rfl
theorem mWhile_go {t : M Bool} {δ1 : DS} (h : t δ = .ok true δ1) (h2 : b δ1 = .ok .nx δ') : mWhile t b δ = mWhile t b δ' := by
  rw [mWhile_eq, bnd_ok h]
  simp only [if_true]
  rw [bnd_ok h2]
  exact congrFun (mWhile_eq t b) δ'
theorem mWhile_rt {t : M Bool} {δ1 : DS} (h : t δ = .ok true δ1) (h2 : b δ1 = .ok (.rt v) δ') : mWhile t b δ = .ok (.rt v) δ' := by
  rw [mWhile_eq, bnd_ok h]
  simp only [if_true]
  rw [bnd_ok h2]
  rfl
theorem mWhile_exn {t : M Bool} {δ1 : DS} (h : t δ = .ok true δ1) (h2 : b δ1 = .exn x δ') : mWhile t b δ = .exn x δ' := by
  rw [mWhile_eq, bnd_ok h]
  simp only [if_true]
  rw [bnd_exn h2]
theorem fnOf_rt {np nl : Nat} {as : List Nat} {ss fin : List SV} (hl : ss.length = np) (hm : ((marks as 0 ss).all fun b => !b.1 || isDat b.2) = true) (h : a (ss.map some ++ List.replicate nl none) = .ok (.rt v) δ') (hf : fins (marks as 0 ss) δ' = some fin) : fnOf np nl as a ss = .ret v fin := by
  unfold fnOf
  rw [if_pos ⟨hl, hm⟩, h]
  simp [fnOut, hf]
theorem fnOf_exn {np nl : Nat} {as : List Nat} {ss fin : List SV} (hl : ss.length = np) (hm : ((marks as 0 ss).all fun b => !b.1 || isDat b.2) = true) (h : a (ss.map some ++ List.replicate nl none) = .exn x δ') (hf : fins (marks as 0 ss) δ' = some fin) : fnOf np nl as a ss = .exn x fin := by
  unfold fnOf
  rw [if_pos ⟨hl, hm⟩, h]
  simp [fnOut, hf]
theorem eComp_ok {it : M (List PyData)} {g : TgD} {t : M Bool} {e : M Opd} {vs : List Nat} {ds acc : List PyData} {δ1 : DS} (h : it δ = .ok ds δ1) (h2 : compM g t e vs ds [] δ1 = .ok acc δ') : eComp it g t e vs δ = .ok (.val (.lst acc)) (backD vs δ1 δ') := by
  unfold eComp
  rw [bnd_ok h, h2]
theorem sSet_ok {g : TgD} {m : M Opd} {δ1 : DS} (h : m δ = .ok (.val v) δ1) (h2 : g v δ1 = some δ') : sSet g m δ = .ok .nx δ' := by
  unfold sSet
  rw [bnd_ok h]
  simp [bnd, take, ret, asg, h2]
theorem sRet_ok {np : Nat} {m : M Opd} (h : m δ = .ok (.val v) δ') : sRet np m δ = .ok (.rt v) δ' := by
  unfold sRet
  rw [bnd_ok h]
  simp [bnd, leave, ret]
theorem eOp1 {f : List PyData → Option SV} {m : M Opd} {o : Opd} {d : PyData} {s : SV} (h : m δ = .ok o δ') (hd : o.data δ' = some d) (hf : f [d] = some s) : eOp f [m] δ = .ok (.val s) δ' := by
  simp [eOp, evs, bnd, h, ret, opN, datas, hd, hf]
theorem eOp2 {f : List PyData → Option SV} {m n : M Opd} {o o2 : Opd} {d d2 : PyData} {s : SV} {δ1 : DS} (h : m δ = .ok o δ1) (h2 : n δ1 = .ok o2 δ') (hd : o.data δ' = some d) (hd2 : o2.data δ' = some d2) (hf : f [d, d2] = some s) : eOp f [m, n] δ = .ok (.val s) δ' := by
  simp [eOp, evs, bnd, h, h2, ret, opN, datas, hd, hd2, hf]
end
theorem get_left (S : Src) : S.get "left" = some S.left := rfl
theorem get_mixed (S : Src) : S.get "mixed" = some S.mixed := rfl
theorem get_turn (S : Src) : S.get "turn" = some S.turn := rfl
theorem put_left (S : Src) (n : Int) : S.put "left" n = some { S with left := n } := rfl
theorem put_mixed (S : Src) (n : Int) : S.put "mixed" n = some { S with mixed := n } := rfl
theorem put_turn (S : Src) (n : Int) : S.put "turn" n = some { S with turn := n } := rfl
def tPick : M Bool := (tAnd (tOf (eOp (gB2 (gCmp .Gt)) [(eSlot 1), (eDat (.int 1))])) (tAnd (tOf (eOp (gB2 (gCmp .Lt)) [(eSrcGet "left" 0), (eDat (.int 2))])) (tOf (eOp (gB2 (gCmp .Gt)) [(eSrcLen 0), (eDat (.int 0))]))))
def bPick : M Flw := (sSrcSet "left" 0 (eSrcPop 0))
def rPick : M Flw := 
 (sSeq (sSet (gName 2) (eSrcGet "left" 0))
 (sSeq (mIf (tOr (tOf (eOp (gB2 (gCmp .Lt)) [(eSlot 1), (eDat (.int 2))])) (tOf (eOp (gB2 (gCmp .Gt)) [(eSlot 2), (eDat (.int 1))])))
 (sSeq (sSrcSet "left" 0 (eOp (g2 (gBin .FloorDiv)) [(eSlot 2), (eOp (g2 gMax) [(eDat (.int 1)), (eSlot 1)])]))
 (sRet 2 (eOp (g2 (gBin .Mod)) [(eOp (g1 gInt) [(eSlot 2)]), (eOp (g2 gMax) [(eDat (.int 1)), (eSlot 1)])])))
 (ret .nx))
 (sSeq (sSrcSet "turn" 0 (eOp (g2 (gBin .Add)) [(eSrcGet "turn" 0), (eDat (.int 1))]))
 (sSeq (sSet (gName 3) (eOp (g2 (gBin .Mod)) [(eOp (g1 gInt) [(eOp (g2 (gBin .Add)) [(eSrcGet "mixed" 0), (eOp (g2 (gBin .Mult)) [(eSrcGet "turn" 0), (eDat (.int 104729))])])]), (eDat (.int 998244353))]))
 (sSeq (sSet (gName 3) (eOp (g2 (gBin .Mod)) [(eOp (g1 gInt) [(eOp (g2 (gBin .Add)) [(eOp (g2 (gBin .Mult)) [(eSlot 3), (eSlot 3)]), (eOp (g2 (gBin .Mult)) [(eSrcGet "turn" 0), (eDat (.int 17))])])]), (eDat (.int 2147483647))]))
 (sSeq (sSrcSet "mixed" 0 (eSlot 3))
 (sRet 2 (eOp (g2 (gBin .Mod)) [(eOp (g1 gInt) [(eOp (g2 (gBin .FloorDiv)) [(eSlot 3), (eDat (.int 16))])]), (eSlot 1)]))))))))
def mPick : M Flw := sSeq (mWhile tPick bPick) rPick
def fPick : FN := fnOf 2 2 [2, 3] mPick
theorem runPick : ∀ (n : Nat) (S : Src) (k : Int), S.cells.length = n → ∃ S' : Src, mWhile tPick bPick [some (.src S), some (.dat (.int k)), none, none] = .ok .nx [some (.src S'), some (.dat (.int k)), none, none]
  | n, S, k, hn => by
    rw [mWhile_eq]
    by_cases h1 : 1 < k
    · by_cases h2 : S.left < 2
      · cases n with
        | zero =>
          refine ⟨S, ?_⟩
          simp [tPick, tAnd, tOf, eOp, evs, bnd, eSlot, at?, ret, eDat, opN, datas, Opd.data, SV.data, gB2, gCmp, truth, truthy, eSrcGet, srcAt, get_left, eSrcLen, h1, h2, hn]
        | succ n =>
          have e : S.cells[S.cells.length - 1]? = some (S.cells[S.cells.length - 1]'(by omega)) := List.getElem?_eq_getElem _
          obtain ⟨S', hs⟩ := runPick n { S with left := S.cells[S.cells.length - 1]'(by omega), cells := S.cells.dropLast } k (by simp [hn])
          refine ⟨S', ?_⟩
          rw [← hs]
          simp [tPick, tAnd, tOf, eOp, evs, bnd, eSlot, at?, ret, eDat, opN, datas, Opd.data, SV.data, gB2, gCmp, truth, truthy, eSrcGet, srcAt, get_left, eSrcLen, h1, h2, hn, bPick, sSrcSet, eSrcPop, put_left]
      · refine ⟨S, ?_⟩
        simp [tPick, tAnd, tOf, eOp, evs, bnd, eSlot, at?, ret, eDat, opN, datas, Opd.data, SV.data, gB2, gCmp, truth, truthy, eSrcGet, srcAt, get_left, eSrcLen, h1, h2, hn]
    · refine ⟨S, ?_⟩
      simp [tPick, tAnd, tOf, eOp, evs, bnd, eSlot, at?, ret, eDat, opN, datas, Opd.data, SV.data, gB2, gCmp, truth, truthy, h1]
theorem pick_ok (S : Src) (k : Int) (h1 : 1 ≤ k) (h2 : k < 1073741824) : ∃ (S' : Src) (i : Int), fPick [.src S, .dat (.int k)] = .ret (.dat (.int i)) [.src S', .dat (.int k)] ∧ 0 ≤ i ∧ i < k := by
  obtain ⟨S1, hw⟩ := runPick _ S k rfl
  have hm : (if k > 1 then k else 1) = k := by split <;> omega
  by_cases c : k < 2 ∨ 1 < S1.left
  · refine ⟨{ S1 with left := S1.left / k }, S1.left % k, ?_, Int.emod_nonneg _ (by omega), Int.emod_lt_of_pos _ (by omega)⟩
    have hp : 0 < k := by omega
    rcases Decidable.em (k < 2) with c1 | c1 <;>
    simp [fPick, fnOf, marks, isDat, mPick, sSeq, bnd, hw, rPick, sSet, gName, asg, eSrcGet, srcAt, at?, get_left, put_left, take, ret, mIf, tOr, tOf, eOp, evs, eSlot, eDat, opN, datas, Opd.data, SV.data, gB2, gCmp, truth, truthy, c1, c.resolve_left, sSrcSet, g2, gBin, gDiv, gMod, gMax, g1, gInt, hm, hp, h2, sRet, leave, fnOut, fins]
    all_goals simp [c.resolve_left c1, sSeq, bnd, sSrcSet, eOp, evs, eSlot, eDat, at?, ret, opN, datas, Opd.data, SV.data, g2, gBin, gDiv, gMod, gMax, g1, gInt, hm, hp, h2, sRet, leave, fnOut, fins, srcAt, put_left]
  · have c1 : ¬ k < 2 := fun q => c (.inl q)
    have c2 : ¬ 1 < S1.left := fun q => c (.inr q)
    have hp : 0 < k := by omega
    refine ⟨?_, ?_, ?_, ?_, ?_⟩
    · exact { S1 with turn := S1.turn + 1, mixed := ((S1.mixed + (S1.turn + 1) * 104729) % 998244353 * ((S1.mixed + (S1.turn + 1) * 104729) % 998244353) + (S1.turn + 1) * 17) % 2147483647 }
    · exact ((((S1.mixed + (S1.turn + 1) * 104729) % 998244353 * ((S1.mixed + (S1.turn + 1) * 104729) % 998244353) + (S1.turn + 1) * 17) % 2147483647) / 16) % k
    · have m1 : ∀ i : Int, gMul (.int i) (.int 104729) = some (.dat (.int (i * 104729))) := fun i => if_pos (.inr (by decide))
      have m2 : ∀ i : Int, gMul (.int i) (.int 17) = some (.dat (.int (i * 17))) := fun i => if_pos (.inr (by decide))
      have m3 : ∀ j : Int, gMul (.int (j % 998244353)) (.int (j % 998244353)) = some (.dat (.int (j % 998244353 * (j % 998244353)))) := fun j => if_pos (.inl (by omega))
      simp [fPick, fnOf, marks, isDat, mPick, sSeq, bnd, hw, rPick, sSet, gName, asg, eSrcGet, srcAt, at?, get_left, get_turn, get_mixed, put_left, put_turn, put_mixed, take, ret, mIf, tOr, tOf, eOp, evs, eSlot, eDat, opN, datas, Opd.data, SV.data, gB2, gCmp, truth, truthy, c1, c2, sSrcSet, g2, gBin, gDiv, gMod, gMax, gAdd, m1, m2, m3, g1, gInt, hm, hp, h2, sRet, leave, fnOut, fins]
    · exact Int.emod_nonneg _ (by omega)
    · exact Int.emod_lt_of_pos _ (by omega)
def mOf : M Flw := (sRet 2 (eOp (g2 gIdx) [(eSlot 1), (eCall fPick (evs [(eSlot 0), (eOp (g1 gLen) [(eSlot 1)])]))]))
def fOf : FN := fnOf 2 0 [] mOf
theorem atI_in {α : Type} (xs : List α) {i : Int} (h0 : 0 ≤ i) (h1 : i < xs.length) : ∃ x, atI xs i = some x ∧ x ∈ xs := by
  have hl : i.toNat < xs.length := by omega
  refine ⟨xs[i.toNat], ?_, List.getElem_mem _⟩
  simp [atI, ixN, h0, h1, hl]
theorem of_lst (S : Src) (ds : List PyData) (h1 : 1 ≤ ds.length) (h2 : ds.length < 1073741824) : ∃ (S' : Src) (d : PyData), fOf [.src S, .lst ds] = .ret (.dat d) [.src S', .lst ds] ∧ d ∈ ds := by
  obtain ⟨S', i, e, i0, i1⟩ := pick_ok S ds.length (by omega) (by omega)
  obtain ⟨d, ed, hd⟩ := atI_in ds i0 i1
  refine ⟨S', d, ?_, hd⟩
  simp [fOf, fnOf, marks, mOf, sRet, bnd, eOp, evs, eSlot, at?, ret, opN, datas, Opd.data, SV.data, g1, gLen, eCall, mCall, lends, lend, e, give, g2, gIdx, ed, leave, fnOut, fins]
def mSource : M Flw :=
 (sSeq (sSet (gName 1) (eDat (.int 11)))
 (sSeq (sFor (itScr 0) (gName 2)
 (sSet (gName 1) (eOp (g2 (gBin .Mod)) [(eOp (g1 gInt) [(eOp (g2 (gBin .Add)) [(eOp (g2 (gBin .Add)) [(eOp (g2 (gBin .Mult)) [(eSlot 1), (eDat (.int 69069))]), (eOp (g2 (gBin .Mult)) [(eSlot 2), (eDat (.int 31))])]), (eDat (.int 5))])]), (eDat (.int 2147483629))])))
 (sRet 1 (eSrcNew (eOp (g1 gRevX) [(eComp (itScr 0) (gName 2) (ret true) (eOp (g1 gAbs) [(eSlot 2)]) [2])]) (eSlot 1)))))
def fSource : FN := fnOf 1 2 [1, 2] mSource
theorem srcFor (ns : List Int) : ∀ (xs : List Int) (m : Int) (o : Option SV), ∃ (m' : Int) (o' : Option SV), forM (gName 2) (sSet (gName 1) (eOp (g2 (gBin .Mod)) [(eOp (g1 gInt) [(eOp (g2 (gBin .Add)) [(eOp (g2 (gBin .Add)) [(eOp (g2 (gBin .Mult)) [(eSlot 1), (eDat (.int 69069))]), (eOp (g2 (gBin .Mult)) [(eSlot 2), (eDat (.int 31))])]), (eDat (.int 5))])]), (eDat (.int 2147483629))])) (xs.map PyData.int) [some (.scr ns), some (.dat (.int m)), o] = .ok .nx [some (.scr ns), some (.dat (.int m')), o']
  | [], m, o => ⟨m, o, rfl⟩
  | x :: xs, m, o => by
    obtain ⟨m', o', e⟩ := srcFor ns xs ((m * 69069 + x * 31 + 5) % 2147483629) (some (.dat (.int x)))
    refine ⟨m', o', ?_⟩
    rw [← e]
    have m1 : ∀ i : Int, gMul (.int i) (.int 69069) = some (.dat (.int (i * 69069))) := fun i => if_pos (.inr (by decide))
    have m2 : ∀ i : Int, gMul (.int i) (.int 31) = some (.dat (.int (i * 31))) := fun i => if_pos (.inr (by decide))
    simp [forM, bnd, asg, gName, sSet, eOp, evs, eSlot, at?, ret, eDat, opN, datas, Opd.data, SV.data, g2, gBin, m1, m2, gAdd, g1, gInt, gMod, take]
theorem srcComp (ns : List Int) (m : Int) : ∀ (xs : List Int) (acc : List Int) (o : Option SV), acc.length + xs.length ≤ sizeLine → ∃ (cs : List Int) (o' : Option SV), compM (gName 2) (ret true) (eOp (g1 gAbs) [(eSlot 2)]) [2] (xs.map PyData.int) (acc.map PyData.int) [some (.scr ns), some (.dat (.int m)), o] = .ok (cs.map PyData.int) [some (.scr ns), some (.dat (.int m)), o']
  | [], acc, o, _ => ⟨acc, o, rfl⟩
  | x :: xs, acc, o, h => by
    have hl : acc.length < sizeLine := by simp at h; omega
    obtain ⟨cs, o', e⟩ := srcComp ns m xs (acc ++ [if x < 0 then -x else x]) (some (.dat (.int x))) (by simp at h ⊢; omega)
    refine ⟨cs, o', ?_⟩
    rw [← e]
    simp [compM, bnd, asg, gName, wipeD, eOp, evs, eSlot, at?, ret, opN, datas, Opd.data, SV.data, g1, gAbs, takeD, take, hl]
theorem intsD_map : ∀ cs : List Int, intsD (cs.map PyData.int) = some cs
  | [] => rfl
  | c :: cs => by simp [intsD, intsD_map cs]
theorem eSrcNew_ok {mc mm : M Opd} {δ δ1 δ' : DS} {cs : List Int} {n : Int} (h : mc δ = .ok (.val (.lst (cs.map PyData.int))) δ1) (h2 : mm δ1 = .ok (.val (.dat (.int n))) δ') : eSrcNew mc mm δ = .ok (.val (.src ⟨cs, 1, n, 0⟩)) δ' := by
  simp only [eSrcNew, bnd, h, h2, intsD_map]
theorem source_ok (ns : List Int) (h : ns.length ≤ 63) : ∃ S : Src, fSource [.scr ns] = .ret (.src S) [.scr ns] := by
  obtain ⟨m', o', e⟩ := srcFor ns ns 11 none
  obtain ⟨cs, o2, e2⟩ := srcComp ns m' ns [] o' (by rw [sizeLine_eq]; simp; omega)
  refine ⟨⟨cs.reverse, 1, m', 0⟩, ?_⟩
  have e2' : compM (gName 2) (ret true) (eOp (g1 gAbs) [(eSlot 2)]) [2] (ns.map PyData.int) [] [some (.scr ns), some (.dat (.int m')), o'] = .ok (cs.map PyData.int) [some (.scr ns), some (.dat (.int m')), o2] := e2
  have er : gRevX (.list (cs.map PyData.int)) = some (.lst ((cs.reverse).map PyData.int)) := by simp [gRevX, gRevL]
  refine fnOf_rt rfl rfl (δ' := [some (.scr ns), some (.dat (.int m')), at? [some (.scr ns), some (.dat (.int m')), o'] 2]) ?_ rfl
  refine (sSeq_nx (sSet_ok (v := .dat (.int 11)) rfl rfl)).trans ?_
  refine (sSeq_nx ((sFor_ok (δ' := [some (.scr ns), some (.dat (.int 11)), none]) (ds := ns.map PyData.int) rfl).trans e)).trans ?_
  refine sRet_ok ?_
  have e3 := eComp_ok (it := itScr 0) (δ := [some (.scr ns), some (.dat (.int m')), o']) (ds := ns.map PyData.int) rfl e2'
  have e4 : eOp (g1 gRevX) [eComp (itScr 0) (gName 2) (ret true) (eOp (g1 gAbs) [(eSlot 2)]) [2]] [some (.scr ns), some (.dat (.int m')), o'] = .ok (Opd.val (.lst (cs.reverse.map PyData.int))) [some (.scr ns), some (.dat (.int m')), at? [some (.scr ns), some (.dat (.int m')), o'] 2] := eOp1 e3 rfl er
  exact eSrcNew_ok e4 rfl
end
end Ev

/-! D28: texts by their signs: the one at a place, whether it is among others, how far a run goes. -/
namespace Ev
noncomputable section
open PySem L2

def inS (S cs : List Nat) (p : Nat) : Bool := match cs[p]? with
  | some c => S.contains c
  | none => false
def scan (S cs : List Nat) (p : Nat) : Nat := p + ((cs.drop p).takeWhile fun c => S.contains c).length
theorem scan_in {S cs : List Nat} {p : Nat} (h : inS S cs p = true) : scan S cs p = scan S cs (p + 1) := by
  unfold inS at h
  split at h
  · rename_i c e
    obtain ⟨hp, ec⟩ := List.getElem?_eq_some_iff.mp e
    unfold scan
    rw [List.drop_eq_getElem_cons hp, List.takeWhile_cons, ec, h]
    simp
    omega
  · cases h
theorem scan_out {S cs : List Nat} {p : Nat} (h : inS S cs p = false) : scan S cs p = p := by
  unfold inS at h
  unfold scan
  split at h
  · rename_i c e
    obtain ⟨hp, ec⟩ := List.getElem?_eq_some_iff.mp e
    rw [List.drop_eq_getElem_cons hp, List.takeWhile_cons, ec, h]
    simp
  · rename_i e
    have := List.getElem?_eq_none_iff.mp e
    rw [List.drop_eq_nil_of_le this]
    simp
theorem scan_le {S cs : List Nat} {p : Nat} (h : p ≤ cs.length) : p ≤ scan S cs p ∧ scan S cs p ≤ cs.length := by
  unfold scan
  have : ((cs.drop p).takeWhile fun c => S.contains c).length ≤ (cs.drop p).length := (List.takeWhile_sublist _).length_le
  simp at this
  simp
  omega
theorem while_scan {t : M Bool} {b : M Flw} {S cs : List Nat} (f : Nat → DS) (ht : ∀ p, p ≤ cs.length → t (f p) = .ok (inS S cs p) (f p)) (hb : ∀ p, p < cs.length → b (f p) = .ok .nx (f (p + 1))) :
    ∀ (n p : Nat), cs.length - p = n → p ≤ cs.length → mWhile t b (f p) = .ok .nx (f (scan S cs p)) := by
  intro n
  induction n with
  | zero =>
    intro p hn hp
    have e : inS S cs p = false := by unfold inS; rw [List.getElem?_eq_none (by omega)]
    rw [scan_out e]
    exact mWhile_no (by rw [ht p hp, e])
  | succ n ih =>
    intro p hn hp
    cases e : inS S cs p with
    | false => rw [scan_out e]; exact mWhile_no (by rw [ht p hp, e])
    | true => rw [scan_in e, mWhile_go (by rw [ht p hp, e]) (hb p (by omega))]; exact ih (p + 1) (by omega) (by omega)
theorem in_one (c : Nat) (y : Str) : in? (.str ⟨#[c]⟩) (.str y) = some (y.cps.toList.contains c) := by
  show some (!(Builtin.Str.occurrences y ⟨#[c]⟩ 0 y.length 1).isEmpty) = _
  rw [PySem.StrLaws.found_one]
  simp
/-- a text of signs that are signs, not too long -/
structure Fair (z : Str) : Prop where
  len : z.length ≤ 1000
  ok : ∀ c ∈ z.cps.toList, c < 0x110000
theorem Fair.line {z : Str} (h : Fair z) : z.length ≤ sizeLine := by rw [sizeLine_eq]; have := h.len; omega
theorem strLen (z : Str) : z.length = z.cps.toList.length := by show z.cps.size = _; simp
theorem idx_at {z : Str} (h : Fair z) {p c : Nat} (hc : z.cps.toList[p]? = some c) : gIdx (.str z) (.int p) = some (.dat (.str ⟨#[c]⟩)) := by
  have hp := (List.getElem?_eq_some_iff.mp hc).1
  unfold gIdx
  simp only [if_pos h.line]
  have e : atI z.cps.toList (p : Int) = some c := by
    simp only [atI, ixN]
    rw [if_pos (by omega), if_pos (by omega)]
    simpa using hc
  rw [e]; rfl
theorem len_of {z : Str} (h : Fair z) : gLen (.str z) = some (.dat (.int (z.cps.toList.length : Nat))) := by
  unfold gLen
  simp only [if_pos h.line]
  rw [strLen]
theorem eq_one {c d : Nat} (h : c < 0x110000) (h2 : d < 0x110000) : eq? (.str ⟨#[c]⟩) (.str ⟨#[d]⟩) = some (decide (c = d)) := by
  have e : PyData.eqv (.str ⟨#[c]⟩) (.str ⟨#[d]⟩) = decide (c = d) := by
    show ((⟨#[c]⟩ : Str) == ⟨#[d]⟩) = decide (c = d)
    by_cases q : c = d
    · subst q; simp
    · rw [decide_eq_false q]
      apply beq_eq_false_iff_ne.mpr
      intro z
      exact q (by simpa using z)
  have l1 : PyData.canLay0 (.str ⟨#[c]⟩) = true := by simp [PyData.canLay0, PyData.strOk, h]
  have l2 : PyData.canLay0 (.str ⟨#[d]⟩) = true := by simp [PyData.canLay0, PyData.strOk, h2]
  unfold eq?
  rw [l1, l2, e]
  simp [PyData.depth]
theorem eq_same (d : PyData) (h : d.canLay0 = true) (h2 : d.depth ≤ 64) : eq? d d = some true := by
  unfold eq?
  rw [h, SeqAt.eqv_refl d h]
  simp [h2]
/-- z[p:q] -/
def cutN (z : Str) (p q : Nat) : Str := ⟨((z.cps.toList.drop p).take (q - p)).toArray⟩
theorem cut_at {z : Str} (h : Fair z) {p q : Nat} (hp : p ≤ q) (hq : q ≤ z.cps.toList.length) : gCut (some (p : Int)) (some (q : Int)) (.str z) = some (.dat (.str (cutN z p q))) := by
  unfold gCut
  simp only [if_pos h.line, cutS, HT.sIx_nat]
  rw [strLen, Nat.min_eq_left (by omega), Nat.min_eq_left (by omega)]
  rfl
theorem cut_len {z : Str} {p q : Nat} (hp : p ≤ q) (hq : q ≤ z.cps.toList.length) : (cutN z p q).cps.toList.length = q - p := by
  simp [cutN]
  simp at hq
  omega
theorem cut_fair {z : Str} (h : Fair z) (p q : Nat) : Fair (cutN z p q) := by
  have hl := h.len
  rw [strLen] at hl
  refine ⟨?_, fun c hc => h.ok c ?_⟩
  · rw [strLen]
    simp [cutN]
    simp at hl
    omega
  · simp only [cutN] at hc
    exact List.mem_of_mem_drop (List.mem_of_mem_take (by simpa using hc))
section
variable {δ δ1 δ2 δ3 δ' : DS} {d d1 d2 d3 : PyData}
theorem eTup3 {a b c : M Opd} (h1 : a δ = .ok (.val (.dat d1)) δ1) (h2 : b δ1 = .ok (.val (.dat d2)) δ2) (h3 : c δ2 = .ok (.val (.dat d3)) δ') : eTup [(false, a), (false, b), (false, c)] δ = .ok (.val (.dat (.tuple [d1, d2, d3]))) δ' := by
  have e : 3 ≤ sizeLine := by rw [sizeLine_eq]; decide
  simp [eTup, evS, bnd, h1, h2, h3, ret, takes, takeD, take, SV.data, e]
theorem eTup2 {a b : M Opd} {s : SV} (h1 : a δ = .ok (.val (.dat d1)) δ1) (h2 : b δ1 = .ok (.val s) δ') (h3 : s.data = some d2) : eTup [(false, a), (false, b)] δ = .ok (.val (.dat (.tuple [d1, d2]))) δ' := by
  have e : 2 ≤ sizeLine := by rw [sizeLine_eq]; decide
  simp [eTup, evS, bnd, h1, h2, ret, takes, takeD, take, show SV.data (.dat d1) = some d1 from rfl, e, h3]
theorem eLst1 {a : M Opd} (h1 : a δ = .ok (.val (.dat d1)) δ') : eLst [(false, a)] δ = .ok (.val (.lst [d1])) δ' := by
  have e : 1 ≤ sizeLine := by rw [sizeLine_eq]; decide
  simp [eLst, evS, bnd, h1, ret, takes, takeD, take, SV.data, e]
theorem eCut_ok {a l h : M Opd} {i j : Int} {s : SV} (ha : a δ = .ok (.val (.dat d)) δ1) (hl : l δ1 = .ok (.val (.dat (.int i))) δ2) (hh : h δ2 = .ok (.val (.dat (.int j))) δ') (hg : gCut (some i) (some j) d = some s) : eCut a (some l) (some h) δ = .ok (.val s) δ' := by
  simp [eCut, bnd, ha, partM, intO, hl, hh, Opd.data, SV.data, ret, opN, datas, g1, hg]
theorem lends_vals {δ : DS} : ∀ (ds : List PyData), lends (vals ds) δ = .ok (ds.map SV.dat) δ
  | [] => rfl
  | d :: ds => by
    have := lends_vals (δ := δ) ds
    simp only [vals, List.map_cons] at this ⊢
    simp [lends, lend, bnd, ret, this]
theorem give_vals {δ : DS} : ∀ (ds : List PyData) (fin : List SV), give (vals ds) fin δ = δ
  | [], [] => rfl
  | [], _ :: _ => rfl
  | d :: ds, [] => rfl
  | d :: ds, s :: ss => give_vals ds ss
theorem eCall_ok {F : FN} {m : M (List Opd)} {r : SV} {fin : List SV} {ds : List PyData} (h : m δ = .ok (vals ds) δ') (e : F (ds.map SV.dat) = .ret r fin) : eCall F m δ = .ok (.val r) δ' := by
  unfold eCall
  rw [bnd_ok h]
  unfold mCall
  rw [bnd_ok (lends_vals ds), e]
  simp only [give_vals]
theorem eCall_exn {F : FN} {m : M (List Opd)} {x : Exn} {fin : List SV} {ds : List PyData} (h : m δ = .ok (vals ds) δ') (e : F (ds.map SV.dat) = .exn x fin) : eCall F m δ = .exn x δ' := by
  unfold eCall
  rw [bnd_ok h]
  unfold mCall
  rw [bnd_ok (lends_vals ds), e]
  simp only [give_vals]
theorem cat_small {x y : Str} (h : x.length + y.length ≤ 100000) : gAdd (.str x) (.str y) = some (.dat (.str (x ++ y))) := by
  show cat? x y = _
  unfold cat?
  rw [if_pos (by rw [sizeLine_eq]; omega)]
theorem eq_int (i j : Int) : eq? (.int i) (.int j) = some (decide (i = j)) := by
  unfold eq?
  simp only [PyData.canLay0, PyData.depth, PyData.eqv]
  simp
  by_cases h : i = j <;> simp [h]
end
end
end Ev

/-! D29: what runs where little stands, runs alike where more stands. -/
namespace Ev
noncomputable section
open PySem L2

structure Le (J : List Nat) (B : Nat → Option SV) (δ δ2 : DS) : Prop where
  len : δ2.length = δ.length
  le : ∀ i s, at? δ i = some s → at? δ2 i = some s
  pr : ∀ i ∈ J, at? δ i = none ∧ at? δ2 i = B i
variable {J : List Nat} {B : Nat → Option SV}
theorem Le.free {δ δ2 : DS} (h : Le J B δ δ2) {i : Nat} {s : SV} (e : at? δ i = some s) : i ∉ J := fun q => by rw [(h.pr i q).1] at e; cases e
theorem at_set (δ : DS) (i j : Nat) (o : Option SV) : at? (δ.set i o) j = if i = j ∧ i < δ.length then o else at? δ j := by
  unfold at?
  rw [List.getElem?_set]
  by_cases h : i = j
  · subst h
    by_cases l : i < δ.length
    · simp [l]
    · simp [l]
  · simp [h]
theorem Le.set {δ δ2 : DS} (h : Le J B δ δ2) {i : Nat} (hi : i ∉ J) {o o2 : Option SV} (ho : ∀ s, o = some s → o2 = some s) : Le J B (δ.set i o) (δ2.set i o2) := by
  refine ⟨by simp [h.len], fun j s e => ?_, fun j hj => ?_⟩
  · rw [at_set] at e ⊢
    rw [h.len]
    split at e
    · rename_i c; rw [if_pos c]; exact ho s e
    · rename_i c; rw [if_neg c]; exact h.le j s e
  · have n : ¬ (i = j ∧ i < δ.length) := fun c => hi (c.1 ▸ hj)
    have n2 : ¬ (i = j ∧ i < δ2.length) := fun c => hi (c.1 ▸ hj)
    rw [at_set, at_set, if_neg n, if_neg n2]
    exact h.pr j hj
theorem Le.set1 {δ δ2 : DS} (h : Le J B δ δ2) {i : Nat} (hi : i ∉ J) (o : Option SV) : Le J B (δ.set i o) (δ2.set i o) := h.set hi fun _ e => e
def MoR (J : List Nat) (B : Nat → Option SV) {α : Type} (r r2 : R α) : Prop := match r with
  | .ok a δ' => ∃ δ2', r2 = .ok a δ2' ∧ Le J B δ' δ2'
  | .exn x δ' => ∃ δ2', r2 = .exn x δ2' ∧ Le J B δ' δ2'
  | .bad => True
def Mo (J : List Nat) (B : Nat → Option SV) {α : Type} (m : M α) : Prop := ∀ δ δ2, Le J B δ δ2 → MoR J B (m δ) (m δ2)
theorem mo_ret {α : Type} (a : α) : Mo J B (ret a) := fun δ δ2 h => ⟨δ2, rfl, h⟩
theorem mo_stuck {α : Type} : Mo J B (stuck (α := α)) := fun δ δ2 h => trivial
theorem mo_bnd {α β : Type} {m : M α} {f : α → M β} (hm : Mo J B m) (hf : ∀ a, Mo J B (f a)) : Mo J B (bnd m f) := by
  intro δ δ2 h
  have := hm δ δ2 h
  unfold bnd
  cases e : m δ with
  | bad => trivial
  | exn x δ' => rw [e] at this; obtain ⟨δ2', e2, l⟩ := this; rw [e2]; exact ⟨δ2', rfl, l⟩
  | ok a δ' => rw [e] at this; obtain ⟨δ2', e2, l⟩ := this; rw [e2]; exact hf a δ' δ2' l
theorem mo_ok {α : Type} {m : M α} (hm : Mo J B m) {δ δ2 δ' : DS} {a : α} (l : Le J B δ δ2) (h : m δ = .ok a δ') : ∃ δ2', m δ2 = .ok a δ2' ∧ Le J B δ' δ2' := by
  have := hm δ δ2 l
  rw [h] at this
  exact this
/-- a function of the state that reads only -/
theorem mo_read {α β : Type} {g : DS → Option α} {k : α → M β} (hg : ∀ δ δ2, Le J B δ δ2 → ∀ a, g δ = some a → g δ2 = some a) (hk : ∀ a, Mo J B (k a)) {m : M β} (hm : ∀ δ, m δ = match g δ with
    | some a => k a δ
    | none => .bad) : Mo J B m := by
  intro δ δ2 h
  rw [hm δ, hm δ2]
  cases e : g δ with
  | none => trivial
  | some a => rw [hg δ δ2 h a e]; exact hk a δ δ2 h
theorem opd_le {δ δ2 : DS} (h : Le J B δ δ2) (o : Opd) (d : PyData) (e : o.data δ = some d) : o.data δ2 = some d := by
  cases o with
  | val s => exact e
  | slot i =>
    obtain ⟨s, e1, e2⟩ := Option.bind_eq_some_iff.mp (show (at? δ i).bind SV.data = some d from e)
    show (at? δ2 i).bind SV.data = some d
    rw [h.le i s e1]; exact e2
theorem datas_le {δ δ2 : DS} (h : Le J B δ δ2) : ∀ (os : List Opd) (ds : List PyData), datas δ os = some ds → datas δ2 os = some ds
  | [], ds, e => e
  | o :: os, ds, e => by
    unfold datas at e ⊢
    cases e1 : o.data δ with
    | none => rw [e1] at e; cases e
    | some d =>
      rw [e1] at e
      rw [opd_le h o d e1]
      simp only at e ⊢
      cases e2 : datas δ os with
      | none => rw [e2] at e; cases e
      | some ds' => rw [e2] at e; rw [datas_le h os ds' e2]; exact e
theorem mo_opN (f : List PyData → Option SV) (os : List Opd) : Mo J B (opN f os) := by
  intro δ δ2 h
  unfold opN
  cases e : datas δ os with
  | none => trivial
  | some ds =>
    rw [datas_le h os ds e]
    simp only
    cases f ds with
    | none => trivial
    | some s => exact ⟨δ2, rfl, h⟩
theorem mo_eDat (d : PyData) : Mo J B (eDat d) := mo_ret _
theorem mo_eSlot (i : Nat) : Mo J B (eSlot i) := by
  intro δ δ2 h
  unfold eSlot
  cases e : at? δ i with
  | none => trivial
  | some s => rw [h.le i s e]; cases s <;> exact ⟨δ2, rfl, h⟩
theorem mo_take (o : Opd) : Mo J B (take o) := by
  cases o with
  | val s => exact mo_ret s
  | slot i =>
    intro δ δ2 h
    show MoR J B (match (at? δ i).bind SV.data with
      | some d => R.ok (SV.dat d) (δ.set i (some (.dat d)))
      | none => .bad) (match (at? δ2 i).bind SV.data with
      | some d => R.ok (SV.dat d) (δ2.set i (some (.dat d)))
      | none => .bad)
    cases e : at? δ i with
    | none => simp only [Option.bind_none]; trivial
    | some s =>
      rw [h.le i s e]
      simp only [Option.bind_some]
      cases s.data with
      | none => trivial
      | some d => exact ⟨_, rfl, h.set1 (h.free e) _⟩
theorem mo_takeD (o : Opd) : Mo J B (takeD o) := mo_bnd (mo_take o) fun s => by cases s.data with
  | none => exact mo_stuck
  | some d => exact mo_ret d
theorem mo_takes : ∀ os : List Opd, Mo J B (takes os)
  | [] => mo_ret _
  | o :: os => mo_bnd (mo_takeD o) fun d => mo_bnd (mo_takes os) fun ds => mo_ret _
/-- each of a row -/
inductive MoA (J : List Nat) (B : Nat → Option SV) : List (M Opd) → Prop where
  | nil : MoA J B []
  | cons {m : M Opd} {ms : List (M Opd)} : Mo J B m → MoA J B ms → MoA J B (m :: ms)
theorem mo_evs {ms : List (M Opd)} (h : MoA J B ms) : Mo J B (evs ms) := by
  induction h with
  | nil => exact mo_ret _
  | cons a _ ih => exact mo_bnd a fun o => mo_bnd ih fun os => mo_ret _
theorem mo_eOp {f : List PyData → Option SV} {ms : List (M Opd)} (h : MoA J B ms) : Mo J B (eOp f ms) := mo_bnd (mo_evs h) fun os => mo_opN f os
inductive MoS (J : List Nat) (B : Nat → Option SV) : List (Bool × M Opd) → Prop where
  | nil : MoS J B []
  | cons {m : M Opd} {ms : List (Bool × M Opd)} : Mo J B m → MoS J B ms → MoS J B ((false, m) :: ms)
theorem mo_evS {ms : List (Bool × M Opd)} (h : MoS J B ms) : Mo J B (evS ms) := by
  induction h with
  | nil => exact mo_ret _
  | cons a _ ih => exact mo_bnd a fun o => mo_bnd ih fun os => mo_ret _
theorem mo_if {α : Type} {c : Prop} [Decidable c] {a b : M α} (ha : Mo J B a) (hb : Mo J B b) : Mo J B (if c then a else b) := by split <;> assumption
theorem mo_eTup {ms : List (Bool × M Opd)} (h : MoS J B ms) : Mo J B (eTup ms) := mo_bnd (mo_evS h) fun os => mo_bnd (mo_takes os) fun ds => mo_if (mo_ret _) mo_stuck
theorem mo_eLst {ms : List (Bool × M Opd)} (h : MoS J B ms) : Mo J B (eLst ms) := mo_bnd (mo_evS h) fun os => mo_bnd (mo_takes os) fun ds => mo_if (mo_ret _) mo_stuck
theorem mo_truth (o : Opd) : Mo J B (truth o) := by
  intro δ δ2 h
  unfold truth
  cases e : o.data δ with
  | none => simp only [Option.bind_none]; trivial
  | some d =>
    rw [opd_le h o d e]
    simp only [Option.bind_some]
    cases truthy d with
    | none => trivial
    | some b => exact ⟨δ2, rfl, h⟩
theorem mo_tOf {m : M Opd} (h : Mo J B m) : Mo J B (tOf m) := mo_bnd h mo_truth
theorem mo_tAnd {a b : M Bool} (h : Mo J B a) (k : Mo J B b) : Mo J B (tAnd a b) := mo_bnd h fun c => mo_if k (mo_ret _)
theorem mo_tOr {a b : M Bool} (h : Mo J B a) (k : Mo J B b) : Mo J B (tOr a b) := mo_bnd h fun c => mo_if (mo_ret _) k
theorem mo_tNot {a : M Bool} (h : Mo J B a) : Mo J B (tNot a) := mo_bnd h fun c => mo_ret _
theorem mo_eAnd {a b : M Opd} (h : Mo J B a) (k : Mo J B b) : Mo J B (eAnd a b) := mo_bnd h fun o => mo_bnd (mo_truth o) fun c => mo_if k (mo_ret _)
theorem mo_eOr {a b : M Opd} (h : Mo J B a) (k : Mo J B b) : Mo J B (eOr a b) := mo_bnd h fun o => mo_bnd (mo_truth o) fun c => mo_if (mo_ret _) k
theorem mo_eNot {a : M Bool} (h : Mo J B a) : Mo J B (eNot a) := mo_bnd h fun c => mo_ret _
theorem mo_mIf {α : Type} {c : M Bool} {a b : M α} (h : Mo J B c) (k : Mo J B a) (l : Mo J B b) : Mo J B (mIf c a b) := mo_bnd h fun c => mo_if k l
theorem mo_eChain {o1 o2 : CmpOp} {a b c : M Opd} (ha : Mo J B a) (hb : Mo J B b) (hc : Mo J B c) : Mo J B (eChain o1 o2 a b c) := mo_bnd ha fun x => mo_bnd hb fun y => mo_bnd (mo_opN _ _) fun z => mo_bnd (mo_truth z) fun k => mo_if (mo_bnd hc fun w => mo_opN _ _) (mo_ret _)
theorem mo_intO {m : M Opd} (h : Mo J B m) : Mo J B (intO m) := mo_bnd h fun o => by
  intro δ δ2 l
  cases e : o.data δ with
  | none => simp only [e]; trivial
  | some d =>
    simp only [e, opd_le l o d e]
    cases d <;> first | exact ⟨δ2, rfl, l⟩ | trivial
theorem mo_partN : Mo J B (partM none) := mo_ret _
theorem mo_partS {m : M Opd} (h : Mo J B m) : Mo J B (partM (some m)) := mo_bnd (mo_intO h) fun i => mo_ret _
theorem mo_eCut {a : M Opd} {lo hi : Option (M Opd)} (h : Mo J B a) (hl : Mo J B (partM lo)) (hh : Mo J B (partM hi)) : Mo J B (eCut a lo hi) := mo_bnd h fun x => mo_bnd hl fun l => mo_bnd hh fun h => mo_opN _ _
theorem mo_sSeq {a b : M Flw} (h : Mo J B a) (k : Mo J B b) : Mo J B (sSeq a b) := mo_bnd h fun f => by cases f <;> first | exact k | exact mo_ret _
theorem mo_sDo {m : M Opd} (h : Mo J B m) : Mo J B (sDo m) := mo_bnd h fun _ => mo_ret _
def MoT (J : List Nat) (B : Nat → Option SV) (g : TgD) : Prop := ∀ s δ δ2, Le J B δ δ2 → ∀ δ', g s δ = some δ' → ∃ δ2', g s δ2 = some δ2' ∧ Le J B δ' δ2'
theorem mo_gName {i : Nat} (hi : i ∉ J) : MoT J B (gName i) := by
  intro s δ δ2 h δ' e
  unfold gName at e ⊢
  rw [h.len]
  by_cases l : i < δ.length
  · rw [if_pos l] at e ⊢; cases e; exact ⟨_, rfl, h.set1 hi _⟩
  · rw [if_neg l] at e; cases e
inductive MoTs (J : List Nat) (B : Nat → Option SV) : List TgD → Prop where
  | nil : MoTs J B []
  | cons {g : TgD} {gs : List TgD} : MoT J B g → MoTs J B gs → MoTs J B (g :: gs)
theorem mo_gTupL {gs : List TgD} (hg : MoTs J B gs) : ∀ (ds : List PyData) {δ δ2 δ' : DS}, Le J B δ δ2 → gTupL gs ds δ = some δ' → ∃ δ2', gTupL gs ds δ2 = some δ2' ∧ Le J B δ' δ2' := by
  induction hg with
  | nil => intro ds δ δ2 δ' h e; cases ds with
    | nil => cases e; exact ⟨_, rfl, h⟩
    | cons d ds => cases e
  | cons a _ ih => intro ds δ δ2 δ' h e; cases ds with
    | nil => cases e
    | cons d ds =>
      obtain ⟨δ1, e1, e2⟩ := Option.bind_eq_some_iff.mp e
      obtain ⟨δ3, f1, l⟩ := a _ _ _ h _ e1
      obtain ⟨δ4, f2, l2⟩ := ih ds l e2
      exact ⟨δ4, by unfold gTupL; rw [f1]; exact f2, l2⟩
theorem mo_gTup {gs : List TgD} (hg : MoTs J B gs) : MoT J B (gTup gs) := by
  intro s δ δ2 h δ' e
  obtain ⟨ds, e1, e2⟩ := Option.bind_eq_some_iff.mp e
  obtain ⟨δ4, f2, l2⟩ := mo_gTupL hg ds h e2
  exact ⟨δ4, by unfold gTup; rw [e1]; exact f2, l2⟩
theorem mo_asg {g : TgD} (hg : MoT J B g) (s : SV) : Mo J B (asg g s) := by
  intro δ δ2 h
  unfold asg
  cases e : g s δ with
  | none => trivial
  | some δ' => obtain ⟨δ2', e2, l⟩ := hg s δ δ2 h δ' e; rw [e2]; exact ⟨_, rfl, l⟩
theorem mo_sSet {g : TgD} {m : M Opd} (hg : MoT J B g) (h : Mo J B m) : Mo J B (sSet g m) := mo_bnd h fun o => mo_bnd (mo_take o) fun s => mo_bnd (mo_asg hg s) fun _ => mo_ret _
theorem mo_leave (np : Nat) (o : Opd) : Mo J B (leave np o) := by
  cases o with
  | val s => exact mo_ret s
  | slot i =>
    unfold leave
    refine mo_if (mo_take _) fun δ δ2 h => ?_
    cases e : at? δ i with
    | none => simp only [e]; trivial
    | some s => simp only [e, h.le i s e]; exact ⟨_, rfl, h.set1 (h.free e) none⟩
theorem mo_sRet {np : Nat} {m : M Opd} (h : Mo J B m) : Mo J B (sRet np m) := mo_bnd h fun o => mo_bnd (mo_leave np o) fun s => mo_ret _
theorem mo_forM {g : TgD} {b : M Flw} (hg : MoT J B g) (h : Mo J B b) : ∀ ds : List PyData, Mo J B (forM g b ds)
  | [] => mo_ret _
  | d :: ds => mo_bnd (mo_asg hg _) fun _ => mo_bnd h fun f => by cases f <;> first | exact mo_forM hg h ds | exact mo_ret _
theorem mo_itE {m : M Opd} (h : Mo J B m) : Mo J B (itE m) := mo_bnd h fun o => mo_bnd (mo_takeD o) fun d => by cases itemsOf d with
  | none => exact mo_stuck
  | some ds => exact mo_ret ds
theorem mo_sFor {g : TgD} {it : M (List PyData)} {b : M Flw} (hg : MoT J B g) (h : Mo J B it) (k : Mo J B b) : Mo J B (sFor it g b) := mo_bnd h fun ds => mo_forM hg k ds
theorem le_wipe {vs : List Nat} (hv : ∀ v ∈ vs, v ∉ J) {δ δ2 : DS} (h : Le J B δ δ2) : Le J B (wipeD vs δ) (wipeD vs δ2) := by
  induction vs with
  | nil => exact h
  | cons v vs ih => exact (ih fun w q => hv w (List.mem_cons_of_mem _ q)).set1 (hv v (by simp)) none
theorem mo_compM {g : TgD} {t : M Bool} {e : M Opd} {vs : List Nat} (hg : MoT J B g) (hv : ∀ v ∈ vs, v ∉ J) (ht : Mo J B t) (he : Mo J B e) : ∀ (ds acc : List PyData), Mo J B (compM g t e vs ds acc)
  | [], acc => mo_ret _
  | d :: ds, acc => mo_bnd (fun δ δ2 h => ⟨_, rfl, le_wipe hv h⟩) fun _ => mo_bnd (mo_asg hg _) fun _ => mo_bnd ht fun c => mo_if (mo_bnd he fun o => mo_bnd (mo_takeD o) fun y => mo_if (mo_compM hg hv ht he ds _) mo_stuck) (mo_compM hg hv ht he ds _)
theorem le_back {vs : List Nat} (hv : ∀ v ∈ vs, v ∉ J) {a a2 δ δ2 : DS} (k : Le J B a a2) (h : Le J B δ δ2) : Le J B (backD vs a δ) (backD vs a2 δ2) := by
  induction vs with
  | nil => exact h
  | cons v vs ih => exact (ih fun w q => hv w (List.mem_cons_of_mem _ q)).set (hv v (by simp)) fun s e => k.le v s e
theorem mo_eComp {g : TgD} {it : M (List PyData)} {t : M Bool} {e : M Opd} {vs : List Nat} (hg : MoT J B g) (hv : ∀ v ∈ vs, v ∉ J) (hi : Mo J B it) (ht : Mo J B t) (he : Mo J B e) : Mo J B (eComp it g t e vs) := mo_bnd hi fun ds => by
  intro δ δ2 h
  have := mo_compM hg hv ht he ds [] δ δ2 h
  cases e1 : compM g t e vs ds [] δ with
  | bad => simp only [e1]; trivial
  | exn x δ' => simp only [e1]; trivial
  | ok acc δ' =>
    rw [e1] at this
    obtain ⟨δ2', e2, l⟩ := this
    simp only [e1, e2]
    exact ⟨_, rfl, le_back hv h l⟩
theorem mo_lend (o : Opd) : Mo J B (lend o) := by
  cases o with
  | val s => exact mo_ret s
  | slot i =>
    intro δ δ2 h
    show MoR J B (match at? δ i with
      | some s => R.ok s (δ.set i none)
      | none => .bad) (match at? δ2 i with
      | some s => R.ok s (δ2.set i none)
      | none => .bad)
    cases e : at? δ i with
    | none => trivial
    | some s => rw [h.le i s e]; exact ⟨_, rfl, h.set1 (h.free e) none⟩
theorem mo_lends : ∀ os : List Opd, Mo J B (lends os)
  | [] => mo_ret _
  | o :: os => mo_bnd (mo_lend o) fun s => mo_bnd (mo_lends os) fun ss => mo_ret _
theorem lends_free : ∀ (os : List Opd) {δ δ2 δ' : DS} {ss : List SV}, Le J B δ δ2 → lends os δ = .ok ss δ' → ∀ i ∈ slotsO os, i ∉ J
  | [], _, _, _, _, _, _, i, hi => by simp [slotsO] at hi
  | .val s :: os, δ, δ2, δ', ss, h, e, i, hi => by
    unfold lends at e
    rw [bnd_ok (show lend (.val s) δ = .ok s δ from rfl)] at e
    unfold bnd at e
    cases e1 : lends os δ with
    | bad => rw [e1] at e; cases e
    | exn x δ1 => rw [e1] at e; cases e
    | ok ss1 δ1 => exact lends_free os h e1 i hi
  | .slot j :: os, δ, δ2, δ', ss, h, e, i, hi => by
    unfold lends at e
    cases e0 : at? δ j with
    | none =>
      have : lend (.slot j) δ = .bad := by simp only [lend, e0]
      unfold bnd at e; rw [this] at e; cases e
    | some s =>
      have : lend (.slot j) δ = .ok s (δ.set j none) := by simp only [lend, e0]
      rw [bnd_ok this] at e
      rcases List.mem_cons.mp (show i ∈ j :: slotsO os from hi) with rfl | hi
      · exact h.free e0
      · unfold bnd at e
        cases e1 : lends os (δ.set j none) with
        | bad => rw [e1] at e; cases e
        | exn x δ1 => rw [e1] at e; cases e
        | ok ss1 δ1 => exact lends_free os (h.set1 (h.free e0) none) e1 i hi
theorem le_give : ∀ (os : List Opd) (ss : List SV) {δ δ2 : DS}, (∀ i ∈ slotsO os, i ∉ J) → Le J B δ δ2 → Le J B (give os ss δ) (give os ss δ2)
  | [], [], _, _, _, h => h
  | [], _ :: _, _, _, _, h => h
  | .val _ :: os, [], _, _, _, h => h
  | .slot _ :: os, [], _, _, _, h => h
  | .val _ :: os, s :: ss, _, _, q, h => le_give os ss q h
  | .slot i :: os, s :: ss, _, _, q, h => le_give os ss (fun j hj => q j (List.mem_cons_of_mem _ hj)) (h.set1 (q i (by simp [slotsO])) _)
theorem mo_mCall (F : FN) (os : List Opd) : Mo J B (mCall F os) := by
  intro δ δ2 h
  have hm := mo_lends os δ δ2 h
  unfold mCall bnd
  cases e : lends os δ with
  | bad => trivial
  | exn x δ' => rw [e] at hm; obtain ⟨δ2', e2, l⟩ := hm; rw [e2]; exact ⟨δ2', rfl, l⟩
  | ok ss δ' =>
    rw [e] at hm
    obtain ⟨δ2', e2, l⟩ := hm
    rw [e2]
    simp only
    have q := lends_free os h e
    cases F ss with
    | ret r fin => exact ⟨_, rfl, le_give os fin q l⟩
    | exn x fin => exact ⟨_, rfl, le_give os fin q l⟩
    | bad => trivial
theorem mo_eCall {F : FN} {m : M (List Opd)} (h : Mo J B m) : Mo J B (eCall F m) := mo_bnd h fun os => mo_mCall F os
theorem mo_eMt {T : String} {f : List PyData → Option SV} {mo : M Opd} {ms : M (List Opd)} (h : Mo J B mo) (k : Mo J B ms) : Mo J B (eMt T f mo ms) := mo_bnd h fun o => by
  intro δ δ2 l
  cases e : o.data δ with
  | none => simp only [e]; trivial
  | some d =>
    simp only [e, opd_le l o d e]
    by_cases q : tyN d = T
    · simp only [if_pos q]; exact mo_bnd k (fun os => mo_opN f (o :: os)) δ δ2 l
    · simp only [if_neg q]; trivial
theorem mo_takeV : ∀ os : List Opd, Mo J B (takeV os)
  | [] => mo_ret _
  | o :: os => mo_bnd (mo_take o) fun s => mo_bnd (mo_takeV os) fun ss => mo_ret _
theorem le_sets : ∀ (is : List Nat) (ss : List SV) {δ δ2 : DS}, (∀ i ∈ is, i ∉ J) → Le J B δ δ2 → Le J B (setsN is ss δ) (setsN is ss δ2)
  | [], [], _, _, _, h => h
  | [], _ :: _, _, _, _, h => h
  | _ :: _, [], _, _, _, h => h
  | i :: is, s :: ss, _, _, q, h => le_sets is ss (fun j hj => q j (List.mem_cons_of_mem _ hj)) (h.set1 (q i (by simp)) _)
theorem mo_sPar {is : List Nat} {ms : List (M Opd)} (hi : ∀ i ∈ is, i ∉ J) (h : MoA J B ms) : Mo J B (sPar is ms) := mo_bnd (mo_evs h) fun os => mo_bnd (mo_takeV os) fun ss => by
  intro δ δ2 l
  simp only [l.len]
  split
  · exact ⟨_, rfl, le_sets is ss hi l⟩
  · trivial
theorem mo_itZip {ms : List (M Opd)} (h : MoA J B ms) : Mo J B (itZip ms) := mo_bnd (mo_evs h) fun os => mo_bnd (mo_takes os) fun ds => by
  split
  · split
    · exact mo_ret _
    · exact mo_stuck
  · exact mo_stuck
end
end Ev

/-! D30: the sorted list once more, by putting each text in its place: this one the kernel can run. -/
namespace Ev
open PySem L2
def insT (x : Str) : List Str → List Str
  | [] => [x]
  | y :: ys => if leS x y = true then x :: y :: ys else y :: insT x ys
def sortI : List Str → List Str
  | [] => []
  | x :: xs => insT x (sortI xs)
theorem insT_perm (x : Str) : ∀ l : List Str, (insT x l).Perm (x :: l)
  | [] => .refl _
  | y :: ys => by
    unfold insT
    split
    · exact .refl _
    · exact ((insT_perm x ys).cons y).trans (.swap x y ys)
theorem sortI_perm : ∀ l : List Str, (sortI l).Perm l
  | [] => .refl _
  | x :: xs => (insT_perm x (sortI xs)).trans ((sortI_perm xs).cons x)
theorem insT_pw (x : Str) : ∀ l : List Str, l.Pairwise (fun a b => leS a b = true) → (insT x l).Pairwise (fun a b => leS a b = true)
  | [], _ => List.pairwise_singleton _ _
  | y :: ys, h => by
    obtain ⟨h1, h2⟩ := List.pairwise_cons.mp h
    unfold insT
    split
    · rename_i c
      refine List.pairwise_cons.mpr ⟨fun z hz => ?_, h⟩
      rcases List.mem_cons.mp hz with rfl | hz
      · exact c
      · exact leS_trans c (h1 z hz)
    · rename_i c
      refine List.pairwise_cons.mpr ⟨fun z hz => ?_, insT_pw x ys h2⟩
      rcases List.mem_cons.mp ((insT_perm x ys).mem_iff.mp hz) with rfl | hz
      · have := leS_total z y
        simp only [Bool.or_eq_true] at this
        rcases this with q | q
        · exact absurd q c
        · exact q
      · exact h1 z hz
theorem sortI_pw : ∀ l : List Str, (sortI l).Pairwise (fun a b => leS a b = true)
  | [] => .nil
  | x :: xs => insT_pw x _ (sortI_pw xs)
theorem sortI_eq (ks : List Str) : sortT ks = sortI ks := (perm_pw_eq ((sortI_perm ks).trans (List.mergeSort_perm ks leS).symm) (sortI_pw ks) (List.pairwise_mergeSort (le := leS) (fun a b c => leS_trans) leS_total ks)).symm
def gSortedI : PyData → Option SV
  | .list ds => match txts ds with
    | some ks => if ks.length < 64 then some (.lst ((sortI ks).map .str)) else none
    | none => none
  | .dict kvs => match txts (kvs.map (·.1)) with
    | some ks => if ks.length < 64 then some (.lst ((sortI ks).map .str)) else none
    | none => none
  | _ => none
theorem gSorted_eq : gSorted = gSortedI := by
  funext d
  unfold gSorted gSortedI
  simp only [sortI_eq]
  all_goals (cases d <;> rfl)
end Ev

namespace Hd
open PySem PySem.Spec PyProof.Rows L2
def top (i : Nat) : Stmt := PySem.Challenge.pw_answerrows_k01_lexemes_and_names.main.body.getD i (.Pass ⟨0, 0, 0, 0⟩)
abbrev s_BadText_init : Stmt := inClass (top 2) 0
def d_BadText_init : He.DefD := ⟨("BadText", some "__init__"), "__init__", "BadText.__init__", defArgs s_BadText_init, defBody s_BadText_init, defScope s_BadText_init, [], []⟩
abbrev s_run_end : Stmt := top 12
def d_run_end : He.DefD := ⟨("run_end", none), "run_end", "run_end", defArgs s_run_end, defBody s_run_end, defScope s_run_end, [], []⟩
abbrev s_lexeme_at : Stmt := top 13
def d_lexeme_at : He.DefD := ⟨("lexeme_at", none), "lexeme_at", "lexeme_at", defArgs s_lexeme_at, defBody s_lexeme_at, defScope s_lexeme_at, [], []⟩
abbrev s_lexemes : Stmt := top 14
def d_lexemes : He.DefD := ⟨("lexemes", none), "lexemes", "lexemes", defArgs s_lexemes, defBody s_lexemes, defScope s_lexemes, [], []⟩
abbrev s_are_letters : Stmt := top 15
def d_are_letters : He.DefD := ⟨("are_letters", none), "are_letters", "are_letters", defArgs s_are_letters, defBody s_are_letters, defScope s_are_letters, [], []⟩
abbrev s_is_word_of : Stmt := top 16
def d_is_word_of : He.DefD := ⟨("is_word_of", none), "is_word_of", "is_word_of", defArgs s_is_word_of, defBody s_is_word_of, defScope s_is_word_of, [], []⟩
abbrev s_is_name : Stmt := top 17
def d_is_name : He.DefD := ⟨("is_name", none), "is_name", "is_name", defArgs s_is_name, defBody s_is_name, defScope s_is_name, [], []⟩
abbrev s_is_small_name : Stmt := top 18
def d_is_small_name : He.DefD := ⟨("is_small_name", none), "is_small_name", "is_small_name", defArgs s_is_small_name, defBody s_is_small_name, defScope s_is_small_name, [], []⟩
abbrev s_is_big_name : Stmt := top 19
def d_is_big_name : He.DefD := ⟨("is_big_name", none), "is_big_name", "is_big_name", defArgs s_is_big_name, defBody s_is_big_name, defScope s_is_big_name, [], []⟩
abbrev s__law_source : Stmt := top 21
def d__law_source : He.DefD := ⟨("_law_source", none), "_law_source", "_law_source", defArgs s__law_source, defBody s__law_source, defScope s__law_source, [], []⟩
abbrev s__law_pick : Stmt := top 22
def d__law_pick : He.DefD := ⟨("_law_pick", none), "_law_pick", "_law_pick", defArgs s__law_pick, defBody s__law_pick, defScope s__law_pick, [], []⟩
abbrev s__law_of : Stmt := top 23
def d__law_of : He.DefD := ⟨("_law_of", none), "_law_of", "_law_of", defArgs s__law_of, defBody s__law_of, defScope s__law_of, [], []⟩
abbrev s__law_kept : Stmt := top 24
def d__law_kept : He.DefD := ⟨("_law_kept", none), "_law_kept", "_law_kept", defArgs s__law_kept, defBody s__law_kept, defScope s__law_kept, [], []⟩
abbrev s__law_lexemes : Stmt := top 25
def d__law_lexemes : He.DefD := ⟨("_law_lexemes", none), "_law_lexemes", "_law_lexemes", defArgs s__law_lexemes, defBody s__law_lexemes, defScope s__law_lexemes, [], []⟩
abbrev s__law_is_name : Stmt := top 26
def d__law_is_name : He.DefD := ⟨("_law_is_name", none), "_law_is_name", "_law_is_name", defArgs s__law_is_name, defBody s__law_is_name, defScope s__law_is_name, [], []⟩
abbrev s__law_told_lexemes : Stmt := top 27
def d__law_told_lexemes : He.DefD := ⟨("_law_told_lexemes", none), "_law_told_lexemes", "_law_told_lexemes", defArgs s__law_told_lexemes, defBody s__law_told_lexemes, defScope s__law_told_lexemes, [], []⟩
abbrev s_law : Stmt := top 28
def d_law : He.DefD := ⟨("law", none), "law", "law", defArgs s_law, defBody s_law, defScope s_law, [], []⟩
def fn : List He.DefD := [d_run_end, d_lexeme_at, d_lexemes, d_are_letters, d_is_word_of, d_is_name, d_is_small_name, d_is_big_name, d__law_source, d__law_pick, d__law_of, d__law_kept, d__law_lexemes, d__law_is_name, d__law_told_lexemes, d_law]
def fa : List He.Fa := [.glo "AnswerError", .glo "BadText", .glo "_law_is_name", .glo "_law_kept", .glo "_law_lexemes", .glo "_law_of", .glo "_law_pick", .glo "_law_source", .glo "_law_told_lexemes", .glo "are_letters", .glo "is_big_name", .glo "is_name", .glo "is_small_name", .glo "is_word_of", .glo "law", .glo "lexeme_at", .glo "lexemes", .glo "run_end", .free "ValueError", .free "abs", .free "all", .free "dict", .free "int", .free "isinstance", .free "len", .free "list", .free "max", .free "range", .free "repr", .free "sorted", .free "str", .free "super", .free "zip", .str "BLANKS" " \n", .str "SIGNS" "(),:;", .str "SMALL" "abcdefghijklmnopqrstuvwxyz", .str "BIG" "ABCDEFGHIJKLMNOPQRSTUVWXYZ", .str "FIGURES" "0123456789", .int "MOST_LETTERS" 4, .int "MOST_SIGNS" 12, .glo "KEPT"]
def xs : List (Str × Hz.FnS) := [("BadText", some (("__init__" : Str), ("BadText.__init__" : Str), defArgs s_BadText_init, FuncBody.stmts (defBody s_BadText_init), defScope s_BadText_init, mainGlobals, [("__class__" : Str)], Value.none, builtinsNs))]
def ex (K : PySem.W.Frag) : Bool := (He.tupB K "KEPT" [.str "after", .str "again", .str "alike", .str "all", .str "always", .str "and", .str "before", .str "behind", .str "cut", .str "count", .str "deed", .str "do", .str "document", .str "each", .str "ever", .str "false", .str "holds", .str "in", .str "is", .str "keeps", .str "kept", .str "kind", .str "letters", .str "many", .str "mend", .str "move", .str "next", .str "not", .str "nth", .str "of", .str "on", .str "or", .str "promise", .str "put", .str "question", .str "set", .str "some", .str "true", .str "undo", .str "where", .str "within", .str "word"]) && (Hz.excB PySem.Challenge.pw_answerrows_k01_lexemes_and_names K "BadText" "place")
def loose : List Str := ["AnswerError", "BadText", "BLANKS", "SIGNS", "SMALL", "BIG", "FIGURES", "MOST_LETTERS", "MOST_SIGNS", "KEPT", "run_end", "lexeme_at", "lexemes", "are_letters", "is_word_of", "is_name", "is_small_name", "is_big_name", "_law_source", "_law_pick", "_law_of", "_law_kept", "_law_lexemes", "_law_is_name", "_law_told_lexemes"]
abbrev R : PySem.W.OpenRow := PySem.W.OpenLaw.row PySem.Challenge.rw_answerrows_k01_lexemes_and_names
abbrev hk : PySem.W.Hook := Hz.hookZ 5 fa fn ex xs
def ob (s : PySem.W.SharedT) : Hz.AlZ := Hz.obsZ 5 fa fn ex xs (HandSHeadRun.getT s)
theorem ob_eq (s : PySem.W.SharedT) : ob s = hk.obs s.abs := Hz.obsZ_eq (HandSHeadRun.getT_eq s)
theorem run (w : World) : HandSHeadRun.RunEq R (PySem.W.view R.prog [28]) hk ob 4000 loose w := by
  intro os
  kernel_rfl
end Hd
-- law at 28, rw rw_answerrows_k01_lexemes_and_names

namespace Lw
noncomputable section
open PySem PySem.Spec L2 Ev
open PyProof.Rows hiding St
structure Fx (P : Program) (K : PySem.W.Frag) (mg : Str → Option Value) : Prop where
  f_ValueError : mg "ValueError" = none
  f_abs : mg "abs" = none
  f_all : mg "all" = none
  f_dict : mg "dict" = none
  f_int : mg "int" = none
  f_isinstance : mg "isinstance" = none
  f_len : mg "len" = none
  f_list : mg "list" = none
  f_max : mg "max" = none
  f_range : mg "range" = none
  f_repr : mg "repr" = none
  f_sorted : mg "sorted" = none
  f_str : mg "str" = none
  f_super : mg "super" = none
  f_zip : mg "zip" = none
  g_BLANKS : ∃ t, mg "BLANKS" = some (.str " \n" t)
  g_SIGNS : ∃ t, mg "SIGNS" = some (.str "(),:;" t)
  g_SMALL : ∃ t, mg "SMALL" = some (.str "abcdefghijklmnopqrstuvwxyz" t)
  g_BIG : ∃ t, mg "BIG" = some (.str "ABCDEFGHIJKLMNOPQRSTUVWXYZ" t)
  g_FIGURES : ∃ t, mg "FIGURES" = some (.str "0123456789" t)
  g_MOST_LETTERS : ∃ t, mg "MOST_LETTERS" = some (.int 4 t)
  g_MOST_SIGNS : ∃ t, mg "MOST_SIGNS" = some (.int 12 t)
  g_KEPT : ∃ a, mg "KEPT" = some (.ref a) ∧ ∀ H, IsD K H (.ref a) (.tuple [(.str "after"), (.str "again"), (.str "alike"), (.str "all"), (.str "always"), (.str "and"), (.str "before"), (.str "behind"), (.str "cut"), (.str "count"), (.str "deed"), (.str "do"), (.str "document"), (.str "each"), (.str "ever"), (.str "false"), (.str "holds"), (.str "in"), (.str "is"), (.str "keeps"), (.str "kept"), (.str "kind"), (.str "letters"), (.str "many"), (.str "mend"), (.str "move"), (.str "next"), (.str "not"), (.str "nth"), (.str "of"), (.str "on"), (.str "or"), (.str "promise"), (.str "put"), (.str "question"), (.str "set"), (.str "some"), (.str "true"), (.str "undo"), (.str "where"), (.str "within"), (.str "word")])
  x_BadText : ExK P K mg "BadText" "place"
  y_BadText : ExC K mg "BadText" "place"
def m_run_end : M Flw :=
 (sSeq (mWhile (tAnd (tOf (eOp (gB2 (gCmp .Lt)) [(eSlot 1), (eOp (g1 gLen) [(eSlot 0)])])) (tOf (eOp (gB2 (gCmp .In)) [(eOp (g2 gIdx) [(eSlot 0), (eSlot 1)]), (eSlot 2)])))
 (sAugI (fun i j => i + j) 1 (eDat (.int 1))))
 (sRet 3 (eSlot 1)))
def F_run_end : FN := fnOf 3 0 [1] m_run_end
theorem sc_run_end : FnScope ["text", "place", "signs"] ["text", "place", "signs"] (defScope Hd.s_run_end) := ⟨rfl, rfl, rfl, by decide +kernel, rfl, by decide +kernel, by decide +kernel⟩
theorem c_run_end {P : Program} {w : World} {K : PySem.W.Frag} {mg : Str → Option Value} {base : Heap} {f : Addr} {fd : FuncData} (fx : Fx P K mg)  (Fd : FunD K "run_end" "run_end" (defArgs Hd.s_run_end) (defBody Hd.s_run_end) (defScope Hd.s_run_end) [] [] f fd) (hmg : mg "run_end" = some (.ref f)) :
    CalF P w K mg base 1 "run_end" 3 F_run_end := by
  have hN := sc_run_end.nd
  refine cal_fn (N := ["text", "place", "signs"]) Fd sc_run_end rfl rfl hmg (Fd.bindsN fun _ _ _ _ _ _ us hl => match us, hl with | [_, _, _], _ => rfl) fun cdv A outer s H E hG hr W tk => ?_
  have hu64 := hr.units
  have hu65 : (A.deeper (PyProof.Rows.envOfC "run_end" (defScope Hd.s_run_end) s.heap.objs.size f cdv)).units + 65 < cLine := by have := hr.un; omega
  have hu66 : (A.deeper (PyProof.Rows.envOfC "run_end" (defScope Hd.s_run_end) s.heap.objs.size f cdv)).units + 66 < cLine := by have := hr.un; omega
  exact (ss_cons (ss_while (passes_of rfl) (L2.PW.pt (sw_and (st_cmp hu65 rfl (se_name (i := 1) rfl (by first | exact .inl rfl | exact .inr (.inl rfl) | exact .inr (.inr rfl)) rfl rfl) (se_callB br_len rfl fx.f_len rfl rfl (sa_cons rfl (se_name (i := 0) rfl (by first | exact .inl rfl | exact .inr (.inl rfl) | exact .inr (.inr rfl)) rfl rfl) sa_nil) (by decide) rfl rfl)) (sw_and1 (st_cmp hu65 rfl (se_idx rfl (se_name (i := 0) rfl (by first | exact .inl rfl | exact .inr (.inl rfl) | exact .inr (.inr rfl)) rfl rfl) (se_name (i := 1) rfl (by first | exact .inl rfl | exact .inr (.inl rfl) | exact .inr (.inr rfl)) rfl rfl)) (se_name (i := 2) rfl (by first | exact .inl rfl | exact .inr (.inl rfl) | exact .inr (.inr rfl)) rfl rfl)))))
 (ss_one (ss_augI ip_add hN rfl (by first | exact .inl rfl | exact .inr rfl) (by first | exact .inl rfl | exact .inr rfl) (by decide) se_int)))
 (ss_one (ss_ret (np := 3) (se_name (i := 1) rfl (by first | exact .inl rfl | exact .inr (.inl rfl) | exact .inr (.inr rfl)) rfl rfl))))

def m_lexeme_at : M Flw :=
 (sSeq (sSet (gName 1) (eCall F_run_end (evs [(eSlot 0), (eSlot 1), (eDat (.str " \n"))])))
 (sSeq (mIf (tOf (eOp (gB2 (gCmp .Eq)) [(eSlot 1), (eOp (g1 gLen) [(eSlot 0)])]))
 (sRet 2 (eTup [(false, (eDat (.str "end"))), (false, (eDat (.str ""))), (false, (eSlot 1))]))
 (ret .nx))
 (sSeq (mIf (tOf (eOp (gB2 (gCmp .In)) [(eOp (g2 gIdx) [(eSlot 0), (eSlot 1)]), (eDat (.str "(),:;"))]))
 (sRet 2 (eTup [(false, (eDat (.str "sign"))), (false, (eOp (g2 gIdx) [(eSlot 0), (eSlot 1)])), (false, (eSlot 1))]))
 (ret .nx))
 (sSeq (mIf (tOf (eOp (gB2 (gCmp .Eq)) [(eOp (g2 gIdx) [(eSlot 0), (eSlot 1)]), (eDat (.str "0"))]))
 (sRet 2 (eTup [(false, (eDat (.str "numeral"))), (false, (eDat (.str "0"))), (false, (eSlot 1))]))
 (ret .nx))
 (sSeq (mIf (tOf (eOp (gB2 (gCmp .In)) [(eOp (g2 gIdx) [(eSlot 0), (eSlot 1)]), (eDat (.str "0123456789"))]))
 (sRet 2 (eTup [(false, (eDat (.str "numeral"))), (false, (eCut (eSlot 0) (some (eSlot 1)) (some (eCall F_run_end (evs [(eSlot 0), (eSlot 1), (eDat (.str "0123456789"))]))))), (false, (eSlot 1))]))
 (ret .nx))
 (sSeq (mIf (tOf (eOp (gB2 (gCmp .In)) [(eOp (g2 gIdx) [(eSlot 0), (eSlot 1)]), (eOp (g2 (gBin .Add)) [(eDat (.str "abcdefghijklmnopqrstuvwxyz")), (eDat (.str "ABCDEFGHIJKLMNOPQRSTUVWXYZ"))])]))
 (sRet 2 (eTup [(false, (eDat (.str "word"))), (false, (eCut (eSlot 0) (some (eSlot 1)) (some (eCall F_run_end (evs [(eSlot 0), (eSlot 1), (eOp (g2 (gBin .Add)) [(eOp (g2 (gBin .Add)) [(eDat (.str "abcdefghijklmnopqrstuvwxyz")), (eDat (.str "ABCDEFGHIJKLMNOPQRSTUVWXYZ"))]), (eDat (.str "0123456789"))])]))))), (false, (eSlot 1))]))
 (ret .nx))
 (sRet 2 (eTup [(false, (eDat (.str "wrong"))), (false, (eDat (.str ""))), (false, (eSlot 1))]))))))))
def F_lexeme_at : FN := fnOf 2 0 [1] m_lexeme_at
theorem sc_lexeme_at : FnScope ["text", "place"] ["text", "place"] (defScope Hd.s_lexeme_at) := ⟨rfl, rfl, rfl, by decide +kernel, rfl, by decide +kernel, by decide +kernel⟩
theorem c_lexeme_at {P : Program} {w : World} {K : PySem.W.Frag} {mg : Str → Option Value} {base : Heap} {f : Addr} {fd : FuncData} (fx : Fx P K mg) (c_run_end : CalF P w K mg base 1 "run_end" 3 F_run_end) (Fd : FunD K "lexeme_at" "lexeme_at" (defArgs Hd.s_lexeme_at) (defBody Hd.s_lexeme_at) (defScope Hd.s_lexeme_at) [] [] f fd) (hmg : mg "lexeme_at" = some (.ref f)) :
    CalF P w K mg base 2 "lexeme_at" 2 F_lexeme_at := by
  have hN := sc_lexeme_at.nd
  refine cal_fn (N := ["text", "place"]) Fd sc_lexeme_at rfl rfl hmg (Fd.bindsN fun _ _ _ _ _ _ us hl => match us, hl with | [_, _], _ => rfl) fun cdv A outer s H E hG hr W tk => ?_
  have hu64 := hr.units
  have hu65 : (A.deeper (PyProof.Rows.envOfC "lexeme_at" (defScope Hd.s_lexeme_at) s.heap.objs.size f cdv)).units + 65 < cLine := by have := hr.un; omega
  have hu66 : (A.deeper (PyProof.Rows.envOfC "lexeme_at" (defScope Hd.s_lexeme_at) s.heap.objs.size f cdv)).units + 66 < cLine := by have := hr.un; omega
  exact (ss_cons (ss_set (i := 1) hN rfl (by first | exact .inl rfl | exact .inr rfl) (by first | exact .inl rfl | exact .inr rfl) (by decide) (se_call c_run_end tk hG (hr.mono (by decide)) rfl (sa_cons rfl (se_name (i := 0) rfl (by first | exact .inl rfl | exact .inr (.inl rfl) | exact .inr (.inr rfl)) rfl rfl) (sa_cons rfl (se_name (i := 1) rfl (by first | exact .inl rfl | exact .inr (.inl rfl) | exact .inr (.inr rfl)) rfl rfl) (sa_cons rfl (se_gstr fx.g_BLANKS rfl rfl) sa_nil))) rfl rfl rfl) (by first | rfl | exact swaps_no rfl _ _ _))
 (ss_cons (ss_if (st_cmp hu65 rfl (se_name (i := 1) rfl (by first | exact .inl rfl | exact .inr (.inl rfl) | exact .inr (.inr rfl)) rfl rfl) (se_callB br_len rfl fx.f_len rfl rfl (sa_cons rfl (se_name (i := 0) rfl (by first | exact .inl rfl | exact .inr (.inl rfl) | exact .inr (.inr rfl)) rfl rfl) sa_nil) (by decide) rfl rfl))
 (ss_one (ss_ret (np := 2) (se_tup (saS_cons rfl se_str (saS_cons rfl se_str (saS_cons rfl (se_name (i := 1) rfl (by first | exact .inl rfl | exact .inr (.inl rfl) | exact .inr (.inr rfl)) rfl rfl) saS_nil))))))
 ss_nil)
 (ss_cons (ss_if (st_cmp hu65 rfl (se_idx rfl (se_name (i := 0) rfl (by first | exact .inl rfl | exact .inr (.inl rfl) | exact .inr (.inr rfl)) rfl rfl) (se_name (i := 1) rfl (by first | exact .inl rfl | exact .inr (.inl rfl) | exact .inr (.inr rfl)) rfl rfl)) (se_gstr fx.g_SIGNS rfl rfl))
 (ss_one (ss_ret (np := 2) (se_tup (saS_cons rfl se_str (saS_cons rfl (se_idx rfl (se_name (i := 0) rfl (by first | exact .inl rfl | exact .inr (.inl rfl) | exact .inr (.inr rfl)) rfl rfl) (se_name (i := 1) rfl (by first | exact .inl rfl | exact .inr (.inl rfl) | exact .inr (.inr rfl)) rfl rfl)) (saS_cons rfl (se_name (i := 1) rfl (by first | exact .inl rfl | exact .inr (.inl rfl) | exact .inr (.inr rfl)) rfl rfl) saS_nil))))))
 ss_nil)
 (ss_cons (ss_if (st_cmp hu65 rfl (se_idx rfl (se_name (i := 0) rfl (by first | exact .inl rfl | exact .inr (.inl rfl) | exact .inr (.inr rfl)) rfl rfl) (se_name (i := 1) rfl (by first | exact .inl rfl | exact .inr (.inl rfl) | exact .inr (.inr rfl)) rfl rfl)) se_str)
 (ss_one (ss_ret (np := 2) (se_tup (saS_cons rfl se_str (saS_cons rfl se_str (saS_cons rfl (se_name (i := 1) rfl (by first | exact .inl rfl | exact .inr (.inl rfl) | exact .inr (.inr rfl)) rfl rfl) saS_nil))))))
 ss_nil)
 (ss_cons (ss_if (st_cmp hu65 rfl (se_idx rfl (se_name (i := 0) rfl (by first | exact .inl rfl | exact .inr (.inl rfl) | exact .inr (.inr rfl)) rfl rfl) (se_name (i := 1) rfl (by first | exact .inl rfl | exact .inr (.inl rfl) | exact .inr (.inr rfl)) rfl rfl)) (se_gstr fx.g_FIGURES rfl rfl))
 (ss_one (ss_ret (np := 2) (se_tup (saS_cons rfl se_str (saS_cons rfl (se_cut (se_name (i := 0) rfl (by first | exact .inl rfl | exact .inr (.inl rfl) | exact .inr (.inr rfl)) rfl rfl) (so_some (se_name (i := 1) rfl (by first | exact .inl rfl | exact .inr (.inl rfl) | exact .inr (.inr rfl)) rfl rfl)) (so_some (se_call c_run_end tk hG (hr.mono (by decide)) rfl (sa_cons rfl (se_name (i := 0) rfl (by first | exact .inl rfl | exact .inr (.inl rfl) | exact .inr (.inr rfl)) rfl rfl) (sa_cons rfl (se_name (i := 1) rfl (by first | exact .inl rfl | exact .inr (.inl rfl) | exact .inr (.inr rfl)) rfl rfl) (sa_cons rfl (se_gstr fx.g_FIGURES rfl rfl) sa_nil))) rfl rfl rfl))) (saS_cons rfl (se_name (i := 1) rfl (by first | exact .inl rfl | exact .inr (.inl rfl) | exact .inr (.inr rfl)) rfl rfl) saS_nil))))))
 ss_nil)
 (ss_cons (ss_if (st_cmp hu65 rfl (se_idx rfl (se_name (i := 0) rfl (by first | exact .inl rfl | exact .inr (.inl rfl) | exact .inr (.inr rfl)) rfl rfl) (se_name (i := 1) rfl (by first | exact .inl rfl | exact .inr (.inl rfl) | exact .inr (.inr rfl)) rfl rfl)) (se_bin (se_gstr fx.g_SMALL rfl rfl) (se_gstr fx.g_BIG rfl rfl)))
 (ss_one (ss_ret (np := 2) (se_tup (saS_cons rfl se_str (saS_cons rfl (se_cut (se_name (i := 0) rfl (by first | exact .inl rfl | exact .inr (.inl rfl) | exact .inr (.inr rfl)) rfl rfl) (so_some (se_name (i := 1) rfl (by first | exact .inl rfl | exact .inr (.inl rfl) | exact .inr (.inr rfl)) rfl rfl)) (so_some (se_call c_run_end tk hG (hr.mono (by decide)) rfl (sa_cons rfl (se_name (i := 0) rfl (by first | exact .inl rfl | exact .inr (.inl rfl) | exact .inr (.inr rfl)) rfl rfl) (sa_cons rfl (se_name (i := 1) rfl (by first | exact .inl rfl | exact .inr (.inl rfl) | exact .inr (.inr rfl)) rfl rfl) (sa_cons rfl (se_bin (se_bin (se_gstr fx.g_SMALL rfl rfl) (se_gstr fx.g_BIG rfl rfl)) (se_gstr fx.g_FIGURES rfl rfl)) sa_nil))) rfl rfl rfl))) (saS_cons rfl (se_name (i := 1) rfl (by first | exact .inl rfl | exact .inr (.inl rfl) | exact .inr (.inr rfl)) rfl rfl) saS_nil))))))
 ss_nil)
 (ss_one (ss_ret (np := 2) (se_tup (saS_cons rfl se_str (saS_cons rfl se_str (saS_cons rfl (se_name (i := 1) rfl (by first | exact .inl rfl | exact .inr (.inl rfl) | exact .inr (.inr rfl)) rfl rfl) saS_nil))))))))))))

def m_lexemes : M Flw :=
 (sSeq (sPar [1, 2] [(eLst []), (eCall F_lexeme_at (evs [(eSlot 0), (eDat (.int 0))]))])
 (sSeq (mWhile (tOf (eOp (gB2 (gCmp .NotEq)) [(eOp (g2 gIdx) [(eSlot 2), (eDat (.int 0))]), (eDat (.str "end"))]))
 (sSeq (mIf (tOf (eOp (gB2 (gCmp .Eq)) [(eOp (g2 gIdx) [(eSlot 2), (eDat (.int 0))]), (eDat (.str "wrong"))]))
 (sRaise "BadText" "place" (eOp (g2 gIdx) [(eSlot 2), (eDat (.int 2))]))
 (ret .nx))
 (sSeq (sDo (eAppd 1 (eSlot 2)))
 (sSet (gName 2) (eCall F_lexeme_at (evs [(eSlot 0), (eOp (g2 (gBin .Add)) [(eOp (g2 gIdx) [(eSlot 2), (eDat (.int 2))]), (eOp (g1 gLen) [(eOp (g2 gIdx) [(eSlot 2), (eDat (.int 1))])])])]))))))
 (sRet 1 (eSlot 1))))
def F_lexemes : FN := fnOf 1 2 [1, 2] m_lexemes
theorem sc_lexemes : FnScope ["text", "found", "here"] ["text"] (defScope Hd.s_lexemes) := ⟨rfl, rfl, rfl, by decide +kernel, rfl, by decide +kernel, by decide +kernel⟩
theorem c_lexemes {P : Program} {w : World} {K : PySem.W.Frag} {mg : Str → Option Value} {base : Heap} {f : Addr} {fd : FuncData} (fx : Fx P K mg) (c_lexeme_at : CalF P w K mg base 2 "lexeme_at" 2 F_lexeme_at) (Fd : FunD K "lexemes" "lexemes" (defArgs Hd.s_lexemes) (defBody Hd.s_lexemes) (defScope Hd.s_lexemes) [] [] f fd) (hmg : mg "lexemes" = some (.ref f)) :
    CalF P w K mg base 3 "lexemes" 1 F_lexemes := by
  have hN := sc_lexemes.nd
  refine cal_fn (N := ["text", "found", "here"]) Fd sc_lexemes rfl rfl hmg (Fd.bindsN fun _ _ _ _ _ _ us hl => match us, hl with | [_], _ => rfl) fun cdv A outer s H E hG hr W tk => ?_
  have hu64 := hr.units
  have hu65 : (A.deeper (PyProof.Rows.envOfC "lexemes" (defScope Hd.s_lexemes) s.heap.objs.size f cdv)).units + 65 < cLine := by have := hr.un; omega
  have hu66 : (A.deeper (PyProof.Rows.envOfC "lexemes" (defScope Hd.s_lexemes) s.heap.objs.size f cdv)).units + 66 < cLine := by have := hr.un; omega
  exact (ss_cons (by first | exact ss_par2 (i := 1) (j := 2) (by decide) rfl hN rfl rfl (by decide) rfl rfl (sa_cons rfl (se_lst saS_nil) (sa_cons rfl (se_call c_lexeme_at tk hG (hr.mono (by decide)) rfl (sa_cons rfl (se_name (i := 0) rfl (by first | exact .inl rfl | exact .inr (.inl rfl) | exact .inr (.inr rfl)) rfl rfl) (sa_cons rfl se_int sa_nil)) rfl rfl rfl) sa_nil)) rfl rfl | exact ss_parN (by decide) rfl rfl rfl (by rw [sizeLine_eq]; decide) (sa_cons rfl (se_lst saS_nil) (sa_cons rfl (se_call c_lexeme_at tk hG (hr.mono (by decide)) rfl (sa_cons rfl (se_name (i := 0) rfl (by first | exact .inl rfl | exact .inr (.inl rfl) | exact .inr (.inr rfl)) rfl rfl) (sa_cons rfl se_int sa_nil)) rfl rfl rfl) sa_nil)) (pgs_consN (i := 1) hN rfl (by first | exact .inl rfl | exact .inr rfl) (by first | exact .inl rfl | exact .inr rfl) (pgs_consN (i := 2) hN rfl (by first | exact .inl rfl | exact .inr rfl) (by first | exact .inl rfl | exact .inr rfl) pgs_nilN (is := []))) rfl rfl)
 (ss_cons (ss_while (passes_of rfl) (st_cmp hu65 rfl (se_idx rfl (se_name (i := 2) rfl (by first | exact .inl rfl | exact .inr (.inl rfl) | exact .inr (.inr rfl)) rfl rfl) se_int) se_str)
 (ss_cons (ss_if (st_cmp hu65 rfl (se_idx rfl (se_name (i := 2) rfl (by first | exact .inl rfl | exact .inr (.inl rfl) | exact .inr (.inr rfl)) rfl rfl) se_int) se_str)
 (ss_one (ss_raise fx.x_BadText fx.f_super rfl tk hr (se_idx rfl (se_name (i := 2) rfl (by first | exact .inl rfl | exact .inr (.inl rfl) | exact .inr (.inr rfl)) rfl rfl) se_int) rfl rfl rfl))
 ss_nil)
 (ss_cons (ss_do rfl (se_app (i := 1) rfl (by first | exact .inl rfl | exact .inr (.inl rfl) | exact .inr (.inr rfl)) rfl rfl rfl (se_name (i := 2) rfl (by first | exact .inl rfl | exact .inr (.inl rfl) | exact .inr (.inr rfl)) rfl rfl) rfl rfl rfl))
 (ss_one (ss_set (i := 2) hN rfl (by first | exact .inl rfl | exact .inr rfl) (by first | exact .inl rfl | exact .inr rfl) (by decide) (se_call c_lexeme_at tk hG (hr.mono (by decide)) rfl (sa_cons rfl (se_name (i := 0) rfl (by first | exact .inl rfl | exact .inr (.inl rfl) | exact .inr (.inr rfl)) rfl rfl) (sa_cons rfl (se_bin (se_idx rfl (se_name (i := 2) rfl (by first | exact .inl rfl | exact .inr (.inl rfl) | exact .inr (.inr rfl)) rfl rfl) se_int) (se_callB br_len rfl fx.f_len rfl rfl (sa_cons rfl (se_idx rfl (se_name (i := 2) rfl (by first | exact .inl rfl | exact .inr (.inl rfl) | exact .inr (.inr rfl)) rfl rfl) se_int) sa_nil) (by decide) rfl rfl)) sa_nil)) rfl rfl rfl) (by first | rfl | exact swaps_no rfl _ _ _))))))
 (ss_one (ss_ret (np := 1) (se_name (i := 1) rfl (by first | exact .inl rfl | exact .inr (.inl rfl) | exact .inr (.inr rfl)) rfl rfl)))))

def m_are_letters : M Flw :=
 (sSeq (mIf (tOr (tNot (tOf (eOp (g1 (gIsi "str")) [(eSlot 0)]))) (tNot (tOf (eChain .Lt .LtE (eDat (.int 0)) (eOp (g1 gLen) [(eSlot 0)]) (eDat (.int 4))))))
 (sRet 1 (eDat (.bool false)))
 (ret .nx))
 (sRet 1 (eAnd (eOp (g1 gAll) [(eComp (itE (eSlot 0)) (gName 1) (ret true) (eOp (gB2 (gCmp .In)) [(eSlot 1), (eDat (.str "abcdefghijklmnopqrstuvwxyz"))]) [1])]) (eOp (gB2 (gCmp .Eq)) [(eOp (g1 gListX) [(eSlot 0)]), (eOp (g1 gSorted) [(eOp (g1 gDictOf) [(eComp (itE (eSlot 0)) (gName 1) (ret true) (eTup [(false, (eSlot 1)), (false, (eDat (.bool true)))]) [1])])])]))))
def F_are_letters : FN := fnOf 1 1 [] m_are_letters
theorem sc_are_letters : FnScope ["value", "sign"] ["value"] (defScope Hd.s_are_letters) := ⟨rfl, rfl, rfl, by decide +kernel, rfl, by decide +kernel, by decide +kernel⟩
theorem c_are_letters {P : Program} {w : World} {K : PySem.W.Frag} {mg : Str → Option Value} {base : Heap} {f : Addr} {fd : FuncData} (fx : Fx P K mg)  (Fd : FunD K "are_letters" "are_letters" (defArgs Hd.s_are_letters) (defBody Hd.s_are_letters) (defScope Hd.s_are_letters) [] [] f fd) (hmg : mg "are_letters" = some (.ref f)) :
    CalF P w K mg base 1 "are_letters" 1 F_are_letters := by
  have hN := sc_are_letters.nd
  refine cal_fn (N := ["value", "sign"]) Fd sc_are_letters rfl rfl hmg (Fd.bindsN fun _ _ _ _ _ _ us hl => match us, hl with | [_], _ => rfl) fun cdv A outer s H E hG hr W tk => ?_
  have hu64 := hr.units
  have hu65 : (A.deeper (PyProof.Rows.envOfC "are_letters" (defScope Hd.s_are_letters) s.heap.objs.size f cdv)).units + 65 < cLine := by have := hr.un; omega
  have hu66 : (A.deeper (PyProof.Rows.envOfC "are_letters" (defScope Hd.s_are_letters) s.heap.objs.size f cdv)).units + 66 < cLine := by have := hr.un; omega
  exact (ss_cons (ss_if (L2.PW.pt (sw_or (st_not (st_of rfl (se_isi rfl fx.f_isinstance rfl (by decide) rfl rfl (se_name (i := 0) rfl (by first | exact .inl rfl | exact .inr (.inl rfl) | exact .inr (.inr rfl)) rfl rfl) rfl fx.f_str rfl (by decide) rfl (by decide)))) (sw_or1 (st_not (st_chain hu65 se_int (se_callB br_len rfl fx.f_len rfl rfl (sa_cons rfl (se_name (i := 0) rfl (by first | exact .inl rfl | exact .inr (.inl rfl) | exact .inr (.inr rfl)) rfl rfl) sa_nil) (by decide) rfl rfl) (se_gint fx.g_MOST_LETTERS rfl rfl) (by with_unfolding_all rfl))))))
 (ss_one (ss_ret (np := 1) se_bool))
 ss_nil)
 (ss_one (ss_ret (np := 1) (se_and (se_callB (br_all rfl) rfl fx.f_all rfl rfl (sa_cons rfl (se_comp (own := [("sign", 1)]) rfl hN (by decide) (by decide) (blkOk_by (by rfl)) (si_e (se_name (i := 0) rfl (by first | exact .inl rfl | exact .inr (.inl rfl) | exact .inr (.inr rfl)) rfl rfl)) (fun _ _ _ _ _ => (sg_name (i := 1) hN rfl (by first | exact .inl rfl | exact .inr rfl) (by first | exact .inl rfl | exact .inr rfl))) (fun _ _ _ _ _ => sts_nil) (fun _ _ _ _ _ => (se_cmp hu65 rfl (se_name (i := 1) rfl (by first | exact .inl rfl | exact .inr (.inl rfl) | exact .inr (.inr rfl)) rfl rfl) (se_gstr fx.g_SMALL rfl rfl))) (fun _ => rfl)) sa_nil) (by decide) rfl rfl) (se_one (se_cmp hu65 rfl (se_callTy (br_listX rfl) rfl fx.f_list rfl rfl (sa_cons rfl (se_name (i := 0) rfl (by first | exact .inl rfl | exact .inr (.inl rfl) | exact .inr (.inr rfl)) rfl rfl) sa_nil) (by decide) rfl rfl) (se_callB (br_sorted rfl) rfl fx.f_sorted rfl rfl (sa_cons rfl (se_callTy (br_dict rfl) rfl fx.f_dict rfl rfl (sa_cons rfl (se_comp (own := [("sign", 1)]) rfl hN (by decide) (by decide) (blkOk_by (by rfl)) (si_e (se_name (i := 0) rfl (by first | exact .inl rfl | exact .inr (.inl rfl) | exact .inr (.inr rfl)) rfl rfl)) (fun _ _ _ _ _ => (sg_name (i := 1) hN rfl (by first | exact .inl rfl | exact .inr rfl) (by first | exact .inl rfl | exact .inr rfl))) (fun _ _ _ _ _ => sts_nil) (fun _ _ _ _ _ => (se_tup (saS_cons rfl (se_name (i := 1) rfl (by first | exact .inl rfl | exact .inr (.inl rfl) | exact .inr (.inr rfl)) rfl rfl) (saS_cons rfl se_bool saS_nil)))) (fun _ => rfl)) sa_nil) (by decide) rfl rfl) sa_nil) (by decide) rfl rfl)))))))

def m_is_word_of : M Flw :=
 (sRet 2 (eAnd (eOp (g1 (gIsi "str")) [(eSlot 1)]) (eOp (g1 gAll) [(eComp (itE (eSlot 1)) (gName 2) (ret true) (eOp (gB2 (gCmp .In)) [(eSlot 2), (eSlot 0)]) [2])])))
def F_is_word_of : FN := fnOf 2 1 [] m_is_word_of
theorem sc_is_word_of : FnScope ["letters", "value", "sign"] ["letters", "value"] (defScope Hd.s_is_word_of) := ⟨rfl, rfl, rfl, by decide +kernel, rfl, by decide +kernel, by decide +kernel⟩
theorem c_is_word_of {P : Program} {w : World} {K : PySem.W.Frag} {mg : Str → Option Value} {base : Heap} {f : Addr} {fd : FuncData} (fx : Fx P K mg)  (Fd : FunD K "is_word_of" "is_word_of" (defArgs Hd.s_is_word_of) (defBody Hd.s_is_word_of) (defScope Hd.s_is_word_of) [] [] f fd) (hmg : mg "is_word_of" = some (.ref f)) :
    CalF P w K mg base 1 "is_word_of" 2 F_is_word_of := by
  have hN := sc_is_word_of.nd
  refine cal_fn (N := ["letters", "value", "sign"]) Fd sc_is_word_of rfl rfl hmg (Fd.bindsN fun _ _ _ _ _ _ us hl => match us, hl with | [_, _], _ => rfl) fun cdv A outer s H E hG hr W tk => ?_
  have hu64 := hr.units
  have hu65 : (A.deeper (PyProof.Rows.envOfC "is_word_of" (defScope Hd.s_is_word_of) s.heap.objs.size f cdv)).units + 65 < cLine := by have := hr.un; omega
  have hu66 : (A.deeper (PyProof.Rows.envOfC "is_word_of" (defScope Hd.s_is_word_of) s.heap.objs.size f cdv)).units + 66 < cLine := by have := hr.un; omega
  exact (ss_one (ss_ret (np := 2) (se_and (se_isi rfl fx.f_isinstance rfl (by decide) rfl rfl (se_name (i := 1) rfl (by first | exact .inl rfl | exact .inr (.inl rfl) | exact .inr (.inr rfl)) rfl rfl) rfl fx.f_str rfl (by decide) rfl (by decide)) (se_one (se_callB (br_all rfl) rfl fx.f_all rfl rfl (sa_cons rfl (se_comp (own := [("sign", 2)]) rfl hN (by decide) (by decide) (blkOk_by (by rfl)) (si_e (se_name (i := 1) rfl (by first | exact .inl rfl | exact .inr (.inl rfl) | exact .inr (.inr rfl)) rfl rfl)) (fun _ _ _ _ _ => (sg_name (i := 2) hN rfl (by first | exact .inl rfl | exact .inr rfl) (by first | exact .inl rfl | exact .inr rfl))) (fun _ _ _ _ _ => sts_nil) (fun _ _ _ _ _ => (se_cmp hu65 rfl (se_name (i := 2) rfl (by first | exact .inl rfl | exact .inr (.inl rfl) | exact .inr (.inr rfl)) rfl rfl) (se_name (i := 0) rfl (by first | exact .inl rfl | exact .inr (.inl rfl) | exact .inr (.inr rfl)) rfl rfl))) (fun _ => rfl)) sa_nil) (by decide) rfl rfl)))))

def m_is_name : M Flw :=
 (sSeq (mIf (tOr (tNot (tOf (eOp (g1 (gIsi "str")) [(eSlot 1)]))) (tOr (tNot (tOf (eChain .Lt .LtE (eDat (.int 0)) (eOp (g1 gLen) [(eSlot 1)]) (eDat (.int 12))))) (tOf (eOp (gB2 (gCmp .NotIn)) [(eOp (g2 gIdx) [(eSlot 1), (eDat (.int 0))]), (eOp (g2 (gBin .Add)) [(eDat (.str "abcdefghijklmnopqrstuvwxyz")), (eDat (.str "ABCDEFGHIJKLMNOPQRSTUVWXYZ"))])]))))
 (sRet 2 (eDat (.bool false)))
 (ret .nx))
 (sSeq (mIf (tNot (tOf (eOp (g1 gAll) [(eComp (itE (eCut (eSlot 1) (some (eDat (.int 1))) none)) (gName 2) (ret true) (eOp (gB2 (gCmp .In)) [(eSlot 2), (eOp (g2 (gBin .Add)) [(eDat (.str "abcdefghijklmnopqrstuvwxyz")), (eDat (.str "0123456789"))])]) [2])])))
 (sRet 2 (eDat (.bool false)))
 (ret .nx))
 (sRet 2 (eAnd (eOp (gB2 (gCmp .NotIn)) [(eSlot 1), (eDat (.tuple [(.str "after"), (.str "again"), (.str "alike"), (.str "all"), (.str "always"), (.str "and"), (.str "before"), (.str "behind"), (.str "cut"), (.str "count"), (.str "deed"), (.str "do"), (.str "document"), (.str "each"), (.str "ever"), (.str "false"), (.str "holds"), (.str "in"), (.str "is"), (.str "keeps"), (.str "kept"), (.str "kind"), (.str "letters"), (.str "many"), (.str "mend"), (.str "move"), (.str "next"), (.str "not"), (.str "nth"), (.str "of"), (.str "on"), (.str "or"), (.str "promise"), (.str "put"), (.str "question"), (.str "set"), (.str "some"), (.str "true"), (.str "undo"), (.str "where"), (.str "within"), (.str "word")]))]) (eNot (tOf (eAnd (eOp (gB2 (gCmp .Eq)) [(eOp (g1 gLen) [(eSlot 1)]), (eDat (.int 1))]) (eOp (gB2 (gCmp .In)) [(eSlot 1), (eSlot 0)]))))))))
def F_is_name : FN := fnOf 2 1 [] m_is_name
theorem sc_is_name : FnScope ["letters", "value", "sign"] ["letters", "value"] (defScope Hd.s_is_name) := ⟨rfl, rfl, rfl, by decide +kernel, rfl, by decide +kernel, by decide +kernel⟩
theorem c_is_name {P : Program} {w : World} {K : PySem.W.Frag} {mg : Str → Option Value} {base : Heap} {f : Addr} {fd : FuncData} (fx : Fx P K mg)  (Fd : FunD K "is_name" "is_name" (defArgs Hd.s_is_name) (defBody Hd.s_is_name) (defScope Hd.s_is_name) [] [] f fd) (hmg : mg "is_name" = some (.ref f)) :
    CalF P w K mg base 1 "is_name" 2 F_is_name := by
  have hN := sc_is_name.nd
  refine cal_fn (N := ["letters", "value", "sign"]) Fd sc_is_name rfl rfl hmg (Fd.bindsN fun _ _ _ _ _ _ us hl => match us, hl with | [_, _], _ => rfl) fun cdv A outer s H E hG hr W tk => ?_
  have hu64 := hr.units
  have hu65 : (A.deeper (PyProof.Rows.envOfC "is_name" (defScope Hd.s_is_name) s.heap.objs.size f cdv)).units + 65 < cLine := by have := hr.un; omega
  have hu66 : (A.deeper (PyProof.Rows.envOfC "is_name" (defScope Hd.s_is_name) s.heap.objs.size f cdv)).units + 66 < cLine := by have := hr.un; omega
  exact (ss_cons (ss_if (L2.PW.pt (sw_or (st_not (st_of rfl (se_isi rfl fx.f_isinstance rfl (by decide) rfl rfl (se_name (i := 1) rfl (by first | exact .inl rfl | exact .inr (.inl rfl) | exact .inr (.inr rfl)) rfl rfl) rfl fx.f_str rfl (by decide) rfl (by decide)))) (sw_or (st_not (st_chain hu65 se_int (se_callB br_len rfl fx.f_len rfl rfl (sa_cons rfl (se_name (i := 1) rfl (by first | exact .inl rfl | exact .inr (.inl rfl) | exact .inr (.inr rfl)) rfl rfl) sa_nil) (by decide) rfl rfl) (se_gint fx.g_MOST_SIGNS rfl rfl) (by with_unfolding_all rfl))) (sw_or1 (st_cmp hu65 rfl (se_idx rfl (se_name (i := 1) rfl (by first | exact .inl rfl | exact .inr (.inl rfl) | exact .inr (.inr rfl)) rfl rfl) se_int) (se_bin (se_gstr fx.g_SMALL rfl rfl) (se_gstr fx.g_BIG rfl rfl)))))))
 (ss_one (ss_ret (np := 2) se_bool))
 ss_nil)
 (ss_cons (ss_if (st_not (st_of rfl (se_callB (br_all rfl) rfl fx.f_all rfl rfl (sa_cons rfl (se_comp (own := [("sign", 2)]) rfl hN (by decide) (by decide) (blkOk_by (by rfl)) (si_e (se_cut (se_name (i := 1) rfl (by first | exact .inl rfl | exact .inr (.inl rfl) | exact .inr (.inr rfl)) rfl rfl) (so_some se_int) so_none)) (fun _ _ _ _ _ => (sg_name (i := 2) hN rfl (by first | exact .inl rfl | exact .inr rfl) (by first | exact .inl rfl | exact .inr rfl))) (fun _ _ _ _ _ => sts_nil) (fun _ _ _ _ _ => (se_cmp hu65 rfl (se_name (i := 2) rfl (by first | exact .inl rfl | exact .inr (.inl rfl) | exact .inr (.inr rfl)) rfl rfl) (se_bin (se_gstr fx.g_SMALL rfl rfl) (se_gstr fx.g_FIGURES rfl rfl)))) (fun _ => rfl)) sa_nil) (by decide) rfl rfl)))
 (ss_one (ss_ret (np := 2) se_bool))
 ss_nil)
 (ss_one (ss_ret (np := 2) (se_and (se_cmp hu65 rfl (se_name (i := 1) rfl (by first | exact .inl rfl | exact .inr (.inl rfl) | exact .inr (.inr rfl)) rfl rfl) (se_gdat fx.g_KEPT rfl rfl)) (se_one (se_not (se_and (se_cmp hu65 rfl (se_callB br_len rfl fx.f_len rfl rfl (sa_cons rfl (se_name (i := 1) rfl (by first | exact .inl rfl | exact .inr (.inl rfl) | exact .inr (.inr rfl)) rfl rfl) sa_nil) (by decide) rfl rfl) se_int) (se_one (se_cmp hu65 rfl (se_name (i := 1) rfl (by first | exact .inl rfl | exact .inr (.inl rfl) | exact .inr (.inr rfl)) rfl rfl) (se_name (i := 0) rfl (by first | exact .inl rfl | exact .inr (.inl rfl) | exact .inr (.inr rfl)) rfl rfl)))))))))))

def m_is_small_name : M Flw :=
 (sRet 2 (eAnd (eCall F_is_name (evs [(eSlot 0), (eSlot 1)])) (eOp (gB2 (gCmp .In)) [(eOp (g2 gIdx) [(eSlot 1), (eDat (.int 0))]), (eDat (.str "abcdefghijklmnopqrstuvwxyz"))])))
def F_is_small_name : FN := fnOf 2 0 [] m_is_small_name
theorem sc_is_small_name : FnScope ["letters", "value"] ["letters", "value"] (defScope Hd.s_is_small_name) := ⟨rfl, rfl, rfl, by decide +kernel, rfl, by decide +kernel, by decide +kernel⟩
theorem c_is_small_name {P : Program} {w : World} {K : PySem.W.Frag} {mg : Str → Option Value} {base : Heap} {f : Addr} {fd : FuncData} (fx : Fx P K mg) (c_is_name : CalF P w K mg base 1 "is_name" 2 F_is_name) (Fd : FunD K "is_small_name" "is_small_name" (defArgs Hd.s_is_small_name) (defBody Hd.s_is_small_name) (defScope Hd.s_is_small_name) [] [] f fd) (hmg : mg "is_small_name" = some (.ref f)) :
    CalF P w K mg base 2 "is_small_name" 2 F_is_small_name := by
  have hN := sc_is_small_name.nd
  refine cal_fn (N := ["letters", "value"]) Fd sc_is_small_name rfl rfl hmg (Fd.bindsN fun _ _ _ _ _ _ us hl => match us, hl with | [_, _], _ => rfl) fun cdv A outer s H E hG hr W tk => ?_
  have hu64 := hr.units
  have hu65 : (A.deeper (PyProof.Rows.envOfC "is_small_name" (defScope Hd.s_is_small_name) s.heap.objs.size f cdv)).units + 65 < cLine := by have := hr.un; omega
  have hu66 : (A.deeper (PyProof.Rows.envOfC "is_small_name" (defScope Hd.s_is_small_name) s.heap.objs.size f cdv)).units + 66 < cLine := by have := hr.un; omega
  exact (ss_one (ss_ret (np := 2) (se_and (se_call c_is_name tk hG (hr.mono (by decide)) rfl (sa_cons rfl (se_name (i := 0) rfl (by first | exact .inl rfl | exact .inr (.inl rfl) | exact .inr (.inr rfl)) rfl rfl) (sa_cons rfl (se_name (i := 1) rfl (by first | exact .inl rfl | exact .inr (.inl rfl) | exact .inr (.inr rfl)) rfl rfl) sa_nil)) rfl rfl rfl) (se_one (se_cmp hu65 rfl (se_idx rfl (se_name (i := 1) rfl (by first | exact .inl rfl | exact .inr (.inl rfl) | exact .inr (.inr rfl)) rfl rfl) se_int) (se_gstr fx.g_SMALL rfl rfl))))))

def m_is_big_name : M Flw :=
 (sRet 2 (eAnd (eCall F_is_name (evs [(eSlot 0), (eSlot 1)])) (eOp (gB2 (gCmp .In)) [(eOp (g2 gIdx) [(eSlot 1), (eDat (.int 0))]), (eDat (.str "ABCDEFGHIJKLMNOPQRSTUVWXYZ"))])))
def F_is_big_name : FN := fnOf 2 0 [] m_is_big_name
theorem sc_is_big_name : FnScope ["letters", "value"] ["letters", "value"] (defScope Hd.s_is_big_name) := ⟨rfl, rfl, rfl, by decide +kernel, rfl, by decide +kernel, by decide +kernel⟩
theorem c_is_big_name {P : Program} {w : World} {K : PySem.W.Frag} {mg : Str → Option Value} {base : Heap} {f : Addr} {fd : FuncData} (fx : Fx P K mg) (c_is_name : CalF P w K mg base 1 "is_name" 2 F_is_name) (Fd : FunD K "is_big_name" "is_big_name" (defArgs Hd.s_is_big_name) (defBody Hd.s_is_big_name) (defScope Hd.s_is_big_name) [] [] f fd) (hmg : mg "is_big_name" = some (.ref f)) :
    CalF P w K mg base 2 "is_big_name" 2 F_is_big_name := by
  have hN := sc_is_big_name.nd
  refine cal_fn (N := ["letters", "value"]) Fd sc_is_big_name rfl rfl hmg (Fd.bindsN fun _ _ _ _ _ _ us hl => match us, hl with | [_, _], _ => rfl) fun cdv A outer s H E hG hr W tk => ?_
  have hu64 := hr.units
  have hu65 : (A.deeper (PyProof.Rows.envOfC "is_big_name" (defScope Hd.s_is_big_name) s.heap.objs.size f cdv)).units + 65 < cLine := by have := hr.un; omega
  have hu66 : (A.deeper (PyProof.Rows.envOfC "is_big_name" (defScope Hd.s_is_big_name) s.heap.objs.size f cdv)).units + 66 < cLine := by have := hr.un; omega
  exact (ss_one (ss_ret (np := 2) (se_and (se_call c_is_name tk hG (hr.mono (by decide)) rfl (sa_cons rfl (se_name (i := 0) rfl (by first | exact .inl rfl | exact .inr (.inl rfl) | exact .inr (.inr rfl)) rfl rfl) (sa_cons rfl (se_name (i := 1) rfl (by first | exact .inl rfl | exact .inr (.inl rfl) | exact .inr (.inr rfl)) rfl rfl) sa_nil)) rfl rfl rfl) (se_one (se_cmp hu65 rfl (se_idx rfl (se_name (i := 1) rfl (by first | exact .inl rfl | exact .inr (.inl rfl) | exact .inr (.inr rfl)) rfl rfl) se_int) (se_gstr fx.g_BIG rfl rfl))))))

def m__law_source : M Flw :=
 (sSeq (sSet (gName 1) (eDat (.int 11)))
 (sSeq (sFor (itScr 0) (gName 2)
 (sSet (gName 1) (eOp (g2 (gBin .Mod)) [(eOp (g1 gInt) [(eOp (g2 (gBin .Add)) [(eOp (g2 (gBin .Add)) [(eOp (g2 (gBin .Mult)) [(eSlot 1), (eDat (.int 69069))]), (eOp (g2 (gBin .Mult)) [(eSlot 2), (eDat (.int 31))])]), (eDat (.int 5))])]), (eDat (.int 2147483629))])))
 (sRet 1 (eSrcNew (eOp (g1 gRevX) [(eComp (itScr 0) (gName 2) (ret true) (eOp (g1 gAbs) [(eSlot 2)]) [2])]) (eSlot 1)))))
def F__law_source : FN := fnOf 1 2 [1, 2] m__law_source
theorem sc__law_source : FnScope ["script", "mixed", "cell"] ["script"] (defScope Hd.s__law_source) := ⟨rfl, rfl, rfl, by decide +kernel, rfl, by decide +kernel, by decide +kernel⟩
theorem c__law_source {P : Program} {w : World} {K : PySem.W.Frag} {mg : Str → Option Value} {base : Heap} {f : Addr} {fd : FuncData} (fx : Fx P K mg)  (Fd : FunD K "_law_source" "_law_source" (defArgs Hd.s__law_source) (defBody Hd.s__law_source) (defScope Hd.s__law_source) [] [] f fd) (hmg : mg "_law_source" = some (.ref f)) :
    CalF P w K mg base 1 "_law_source" 1 F__law_source := by
  have hN := sc__law_source.nd
  refine cal_fn (N := ["script", "mixed", "cell"]) Fd sc__law_source rfl rfl hmg (Fd.bindsN fun _ _ _ _ _ _ us hl => match us, hl with | [_], _ => rfl) fun cdv A outer s H E hG hr W tk => ?_
  have hu64 := hr.units
  have hu65 : (A.deeper (PyProof.Rows.envOfC "_law_source" (defScope Hd.s__law_source) s.heap.objs.size f cdv)).units + 65 < cLine := by have := hr.un; omega
  have hu66 : (A.deeper (PyProof.Rows.envOfC "_law_source" (defScope Hd.s__law_source) s.heap.objs.size f cdv)).units + 66 < cLine := by have := hr.un; omega
  exact (ss_cons (ss_set (i := 1) hN rfl (by first | exact .inl rfl | exact .inr rfl) (by first | exact .inl rfl | exact .inr rfl) (by decide) se_int (by first | rfl | exact swaps_no rfl _ _ _))
 (ss_cons (ss_for (by decide) (passes_of rfl) rfl (si_scr (i := 0) rfl (by first | exact .inl rfl | exact .inr (.inl rfl) | exact .inr (.inr rfl)) rfl rfl) (sg_name (i := 2) hN rfl (by first | exact .inl rfl | exact .inr rfl) (by first | exact .inl rfl | exact .inr rfl))
 (ss_one (ss_set (i := 1) hN rfl (by first | exact .inl rfl | exact .inr rfl) (by first | exact .inl rfl | exact .inr rfl) (by decide) (se_bin (se_callTy br_int rfl fx.f_int rfl rfl (sa_cons rfl (se_bin (se_bin (se_bin (se_name (i := 1) rfl (by first | exact .inl rfl | exact .inr (.inl rfl) | exact .inr (.inr rfl)) rfl rfl) se_int) (se_bin (se_name (i := 2) rfl (by first | exact .inl rfl | exact .inr (.inl rfl) | exact .inr (.inr rfl)) rfl rfl) se_int)) se_int) sa_nil) (by decide) rfl rfl) se_int) (by first | rfl | exact swaps_no rfl _ _ _))) (fun _ => rfl))
 (ss_one (ss_ret (np := 1) (se_srcNew (se_rev (se_comp (own := [("cell", 2)]) rfl hN (by decide) (by decide) (blkOk_by (by rfl)) (si_scr (i := 0) rfl (by first | exact .inl rfl | exact .inr (.inl rfl) | exact .inr (.inr rfl)) rfl rfl) (fun _ _ _ _ _ => (sg_name (i := 2) hN rfl (by first | exact .inl rfl | exact .inr rfl) (by first | exact .inl rfl | exact .inr rfl))) (fun _ _ _ _ _ => sts_nil) (fun _ _ _ _ _ => (se_callB br_abs rfl fx.f_abs rfl rfl (sa_cons rfl (se_name (i := 2) rfl (by first | exact .inl rfl | exact .inr (.inl rfl) | exact .inr (.inr rfl)) rfl rfl) sa_nil) (by decide) rfl rfl)) (fun _ => rfl))) (se_name (i := 1) rfl (by first | exact .inl rfl | exact .inr (.inl rfl) | exact .inr (.inr rfl)) rfl rfl))))))

def m__law_pick : M Flw :=
 (sSeq (mWhile (tAnd (tOf (eOp (gB2 (gCmp .Gt)) [(eSlot 1), (eDat (.int 1))])) (tAnd (tOf (eOp (gB2 (gCmp .Lt)) [(eSrcGet "left" 0), (eDat (.int 2))])) (tOf (eOp (gB2 (gCmp .Gt)) [(eSrcLen 0), (eDat (.int 0))]))))
 (sSrcSet "left" 0 (eSrcPop 0)))
 (sSeq (sSet (gName 2) (eSrcGet "left" 0))
 (sSeq (mIf (tOr (tOf (eOp (gB2 (gCmp .Lt)) [(eSlot 1), (eDat (.int 2))])) (tOf (eOp (gB2 (gCmp .Gt)) [(eSlot 2), (eDat (.int 1))])))
 (sSeq (sSrcSet "left" 0 (eOp (g2 (gBin .FloorDiv)) [(eSlot 2), (eOp (g2 gMax) [(eDat (.int 1)), (eSlot 1)])]))
 (sRet 2 (eOp (g2 (gBin .Mod)) [(eOp (g1 gInt) [(eSlot 2)]), (eOp (g2 gMax) [(eDat (.int 1)), (eSlot 1)])])))
 (ret .nx))
 (sSeq (sSrcSet "turn" 0 (eOp (g2 (gBin .Add)) [(eSrcGet "turn" 0), (eDat (.int 1))]))
 (sSeq (sSet (gName 3) (eOp (g2 (gBin .Mod)) [(eOp (g1 gInt) [(eOp (g2 (gBin .Add)) [(eSrcGet "mixed" 0), (eOp (g2 (gBin .Mult)) [(eSrcGet "turn" 0), (eDat (.int 104729))])])]), (eDat (.int 998244353))]))
 (sSeq (sSet (gName 3) (eOp (g2 (gBin .Mod)) [(eOp (g1 gInt) [(eOp (g2 (gBin .Add)) [(eOp (g2 (gBin .Mult)) [(eSlot 3), (eSlot 3)]), (eOp (g2 (gBin .Mult)) [(eSrcGet "turn" 0), (eDat (.int 17))])])]), (eDat (.int 2147483647))]))
 (sSeq (sSrcSet "mixed" 0 (eSlot 3))
 (sRet 2 (eOp (g2 (gBin .Mod)) [(eOp (g1 gInt) [(eOp (g2 (gBin .FloorDiv)) [(eSlot 3), (eDat (.int 16))])]), (eSlot 1)])))))))))
def F__law_pick : FN := fnOf 2 2 [2, 3] m__law_pick
theorem sc__law_pick : FnScope ["source", "many", "left", "mixed"] ["source", "many"] (defScope Hd.s__law_pick) := ⟨rfl, rfl, rfl, by decide +kernel, rfl, by decide +kernel, by decide +kernel⟩
theorem c__law_pick {P : Program} {w : World} {K : PySem.W.Frag} {mg : Str → Option Value} {base : Heap} {f : Addr} {fd : FuncData} (fx : Fx P K mg)  (Fd : FunD K "_law_pick" "_law_pick" (defArgs Hd.s__law_pick) (defBody Hd.s__law_pick) (defScope Hd.s__law_pick) [] [] f fd) (hmg : mg "_law_pick" = some (.ref f)) :
    CalF P w K mg base 1 "_law_pick" 2 F__law_pick := by
  have hN := sc__law_pick.nd
  refine cal_fn (N := ["source", "many", "left", "mixed"]) Fd sc__law_pick rfl rfl hmg (Fd.bindsN fun _ _ _ _ _ _ us hl => match us, hl with | [_, _], _ => rfl) fun cdv A outer s H E hG hr W tk => ?_
  have hu64 := hr.units
  have hu65 : (A.deeper (PyProof.Rows.envOfC "_law_pick" (defScope Hd.s__law_pick) s.heap.objs.size f cdv)).units + 65 < cLine := by have := hr.un; omega
  have hu66 : (A.deeper (PyProof.Rows.envOfC "_law_pick" (defScope Hd.s__law_pick) s.heap.objs.size f cdv)).units + 66 < cLine := by have := hr.un; omega
  exact (ss_cons (ss_while (passes_of rfl) (L2.PW.pt (sw_and (st_cmp hu65 rfl (se_name (i := 1) rfl (by first | exact .inl rfl | exact .inr (.inl rfl) | exact .inr (.inr rfl)) rfl rfl) se_int) (sw_and (st_cmp hu65 rfl (se_srcGet (i := 0) hu64 rfl (by first | exact .inl rfl | exact .inr (.inl rfl) | exact .inr (.inr rfl)) rfl rfl) se_int) (sw_and1 (st_cmp hu65 rfl (se_srcLen (i := 0) hu64 rfl (by first | exact .inl rfl | exact .inr (.inl rfl) | exact .inr (.inr rfl)) rfl rfl rfl rfl fx.f_len) se_int)))))
 (ss_one (ss_srcSet (i := 0) hu64 rfl (by first | exact .inl rfl | exact .inr (.inl rfl) | exact .inr (.inr rfl)) rfl rfl (se_srcPop (i := 0) hu64 rfl (by first | exact .inl rfl | exact .inr (.inl rfl) | exact .inr (.inr rfl)) rfl rfl rfl rfl) rfl)))
 (ss_cons (ss_set (i := 2) hN rfl (by first | exact .inl rfl | exact .inr rfl) (by first | exact .inl rfl | exact .inr rfl) (by decide) (se_srcGet (i := 0) hu64 rfl (by first | exact .inl rfl | exact .inr (.inl rfl) | exact .inr (.inr rfl)) rfl rfl) (by first | rfl | exact swaps_no rfl _ _ _))
 (ss_cons (ss_if (L2.PW.pt (sw_or (st_cmp hu65 rfl (se_name (i := 1) rfl (by first | exact .inl rfl | exact .inr (.inl rfl) | exact .inr (.inr rfl)) rfl rfl) se_int) (sw_or1 (st_cmp hu65 rfl (se_name (i := 2) rfl (by first | exact .inl rfl | exact .inr (.inl rfl) | exact .inr (.inr rfl)) rfl rfl) se_int))))
 (ss_cons (ss_srcSet (i := 0) hu64 rfl (by first | exact .inl rfl | exact .inr (.inl rfl) | exact .inr (.inr rfl)) rfl rfl (se_bin (se_name (i := 2) rfl (by first | exact .inl rfl | exact .inr (.inl rfl) | exact .inr (.inr rfl)) rfl rfl) (se_callB (br_max rfl) rfl fx.f_max rfl rfl (sa_cons rfl se_int (sa_cons rfl (se_name (i := 1) rfl (by first | exact .inl rfl | exact .inr (.inl rfl) | exact .inr (.inr rfl)) rfl rfl) sa_nil)) (by decide) rfl rfl)) rfl)
 (ss_one (ss_ret (np := 2) (se_bin (se_callTy br_int rfl fx.f_int rfl rfl (sa_cons rfl (se_name (i := 2) rfl (by first | exact .inl rfl | exact .inr (.inl rfl) | exact .inr (.inr rfl)) rfl rfl) sa_nil) (by decide) rfl rfl) (se_callB (br_max rfl) rfl fx.f_max rfl rfl (sa_cons rfl se_int (sa_cons rfl (se_name (i := 1) rfl (by first | exact .inl rfl | exact .inr (.inl rfl) | exact .inr (.inr rfl)) rfl rfl) sa_nil)) (by decide) rfl rfl)))))
 ss_nil)
 (ss_cons (ss_srcSet (i := 0) hu64 rfl (by first | exact .inl rfl | exact .inr (.inl rfl) | exact .inr (.inr rfl)) rfl rfl (se_bin (se_srcGet (i := 0) hu64 rfl (by first | exact .inl rfl | exact .inr (.inl rfl) | exact .inr (.inr rfl)) rfl rfl) se_int) rfl)
 (ss_cons (ss_set (i := 3) hN rfl (by first | exact .inl rfl | exact .inr rfl) (by first | exact .inl rfl | exact .inr rfl) (by decide) (se_bin (se_callTy br_int rfl fx.f_int rfl rfl (sa_cons rfl (se_bin (se_srcGet (i := 0) hu64 rfl (by first | exact .inl rfl | exact .inr (.inl rfl) | exact .inr (.inr rfl)) rfl rfl) (se_bin (se_srcGet (i := 0) hu64 rfl (by first | exact .inl rfl | exact .inr (.inl rfl) | exact .inr (.inr rfl)) rfl rfl) se_int)) sa_nil) (by decide) rfl rfl) se_int) (by first | rfl | exact swaps_no rfl _ _ _))
 (ss_cons (ss_set (i := 3) hN rfl (by first | exact .inl rfl | exact .inr rfl) (by first | exact .inl rfl | exact .inr rfl) (by decide) (se_bin (se_callTy br_int rfl fx.f_int rfl rfl (sa_cons rfl (se_bin (se_bin (se_name (i := 3) rfl (by first | exact .inl rfl | exact .inr (.inl rfl) | exact .inr (.inr rfl)) rfl rfl) (se_name (i := 3) rfl (by first | exact .inl rfl | exact .inr (.inl rfl) | exact .inr (.inr rfl)) rfl rfl)) (se_bin (se_srcGet (i := 0) hu64 rfl (by first | exact .inl rfl | exact .inr (.inl rfl) | exact .inr (.inr rfl)) rfl rfl) se_int)) sa_nil) (by decide) rfl rfl) se_int) (by first | rfl | exact swaps_no rfl _ _ _))
 (ss_cons (ss_srcSet (i := 0) hu64 rfl (by first | exact .inl rfl | exact .inr (.inl rfl) | exact .inr (.inr rfl)) rfl rfl (se_name (i := 3) rfl (by first | exact .inl rfl | exact .inr (.inl rfl) | exact .inr (.inr rfl)) rfl rfl) rfl)
 (ss_one (ss_ret (np := 2) (se_bin (se_callTy br_int rfl fx.f_int rfl rfl (sa_cons rfl (se_bin (se_name (i := 3) rfl (by first | exact .inl rfl | exact .inr (.inl rfl) | exact .inr (.inr rfl)) rfl rfl) se_int) sa_nil) (by decide) rfl rfl) (se_name (i := 1) rfl (by first | exact .inl rfl | exact .inr (.inl rfl) | exact .inr (.inr rfl)) rfl rfl)))))))))))

def m__law_of : M Flw :=
 (sRet 2 (eOp (g2 gIdx) [(eSlot 1), (eCall F__law_pick (evs [(eSlot 0), (eOp (g1 gLen) [(eSlot 1)])]))]))
def F__law_of : FN := fnOf 2 0 [] m__law_of
theorem sc__law_of : FnScope ["source", "some"] ["source", "some"] (defScope Hd.s__law_of) := ⟨rfl, rfl, rfl, by decide +kernel, rfl, by decide +kernel, by decide +kernel⟩
theorem c__law_of {P : Program} {w : World} {K : PySem.W.Frag} {mg : Str → Option Value} {base : Heap} {f : Addr} {fd : FuncData} (fx : Fx P K mg) (c__law_pick : CalF P w K mg base 1 "_law_pick" 2 F__law_pick) (Fd : FunD K "_law_of" "_law_of" (defArgs Hd.s__law_of) (defBody Hd.s__law_of) (defScope Hd.s__law_of) [] [] f fd) (hmg : mg "_law_of" = some (.ref f)) :
    CalF P w K mg base 2 "_law_of" 2 F__law_of := by
  have hN := sc__law_of.nd
  refine cal_fn (N := ["source", "some"]) Fd sc__law_of rfl rfl hmg (Fd.bindsN fun _ _ _ _ _ _ us hl => match us, hl with | [_, _], _ => rfl) fun cdv A outer s H E hG hr W tk => ?_
  have hu64 := hr.units
  have hu65 : (A.deeper (PyProof.Rows.envOfC "_law_of" (defScope Hd.s__law_of) s.heap.objs.size f cdv)).units + 65 < cLine := by have := hr.un; omega
  have hu66 : (A.deeper (PyProof.Rows.envOfC "_law_of" (defScope Hd.s__law_of) s.heap.objs.size f cdv)).units + 66 < cLine := by have := hr.un; omega
  exact (ss_one (ss_ret (np := 2) (se_idx rfl (se_name (i := 1) rfl (by first | exact .inl rfl | exact .inr (.inl rfl) | exact .inr (.inr rfl)) rfl rfl) (se_call c__law_pick tk hG (hr.mono (by decide)) rfl (sa_cons rfl (se_name (i := 0) rfl (by first | exact .inl rfl | exact .inr (.inl rfl) | exact .inr (.inr rfl)) rfl rfl) (sa_cons rfl (se_callB br_len rfl fx.f_len rfl rfl (sa_cons rfl (se_name (i := 1) rfl (by first | exact .inl rfl | exact .inr (.inl rfl) | exact .inr (.inr rfl)) rfl rfl) sa_nil) (by decide) rfl rfl) sa_nil)) rfl rfl rfl))))

def m__law_kept : M Flw :=
 (sSeq (sSet (gName 0) (eDat (.str "after again alike all always and before behind cut count deed do document each ever false holds in is keeps")))
 (sSeq (sSet (gName 0) (eOp (g2 (gBin .Add)) [(eSlot 0), (eDat (.str " kept kind letters many mend move next not nth of on or promise put question set some true undo"))]))
 (sRet 0 (eMt "str" gWords (eOp (g2 (gBin .Add)) [(eSlot 0), (eDat (.str " where within word"))]) (evs [])))))
def F__law_kept : FN := fnOf 0 1 [0] m__law_kept
theorem sc__law_kept : FnScope ["text"] [] (defScope Hd.s__law_kept) := ⟨rfl, rfl, rfl, by decide +kernel, rfl, by decide +kernel, by decide +kernel⟩
theorem c__law_kept {P : Program} {w : World} {K : PySem.W.Frag} {mg : Str → Option Value} {base : Heap} {f : Addr} {fd : FuncData} (fx : Fx P K mg)  (Fd : FunD K "_law_kept" "_law_kept" (defArgs Hd.s__law_kept) (defBody Hd.s__law_kept) (defScope Hd.s__law_kept) [] [] f fd) (hmg : mg "_law_kept" = some (.ref f)) :
    CalF P w K mg base 1 "_law_kept" 0 F__law_kept := by
  have hN := sc__law_kept.nd
  refine cal_fn (N := ["text"]) Fd sc__law_kept rfl rfl hmg (Fd.bindsN fun _ _ _ _ _ _ us hl => match us, hl with | [], _ => rfl) fun cdv A outer s H E hG hr W tk => ?_
  have hu64 := hr.units
  have hu65 : (A.deeper (PyProof.Rows.envOfC "_law_kept" (defScope Hd.s__law_kept) s.heap.objs.size f cdv)).units + 65 < cLine := by have := hr.un; omega
  have hu66 : (A.deeper (PyProof.Rows.envOfC "_law_kept" (defScope Hd.s__law_kept) s.heap.objs.size f cdv)).units + 66 < cLine := by have := hr.un; omega
  exact (ss_cons (ss_set (i := 0) hN rfl (by first | exact .inl rfl | exact .inr rfl) (by first | exact .inl rfl | exact .inr rfl) (by decide) se_str (by first | rfl | exact swaps_no rfl _ _ _))
 (ss_cons (ss_set (i := 0) hN rfl (by first | exact .inl rfl | exact .inr rfl) (by first | exact .inl rfl | exact .inr rfl) (by decide) (se_bin (se_name (i := 0) rfl (by first | exact .inl rfl | exact .inr (.inl rfl) | exact .inr (.inr rfl)) rfl rfl) se_str) (by first | rfl | exact swaps_no rfl _ _ _))
 (ss_one (ss_ret (np := 0) (se_mt0 (by simp) PySem.F.plainAttrs_str PySem.F.slot_str_split PySem.F.type_str_split bm_words (se_bin (se_name (i := 0) rfl (by first | exact .inl rfl | exact .inr (.inl rfl) | exact .inr (.inr rfl)) rfl rfl) se_str) rfl rfl)))))

def m__law_lexemes : M Flw :=
 (sSeq (sSet (gName 1) (eDat (.str "abcdefghijklmnopqrstuvwxyz")))
 (sSeq (sPar [2, 3, 4] [(eDat (.str "0123456789")), (eLst []), (eDat (.int 0))])
 (sSeq (sSet (gName 5) (eOp (g2 (gBin .Add)) [(eOp (g2 (gBin .Add)) [(eSlot 1), (eMt "str" gUpper (eSlot 1) (evs []))]), (eSlot 2)]))
 (sSeq (mWhile (tOf (eOp (gB2 (gCmp .Lt)) [(eSlot 4), (eOp (g1 gLen) [(eSlot 0)])]))
 (sSeq (sPar [6, 7] [(eOp (g2 gIdx) [(eSlot 0), (eSlot 4)]), (eOp (g2 (gBin .Add)) [(eSlot 4), (eDat (.int 1))])])
 (sSeq (mIf (tOf (eOp (gB2 (gCmp .In)) [(eSlot 6), (eDat (.str "(),:;"))]))
 (sDo (eAppd 3 (eTup [(false, (eDat (.str "sign"))), (false, (eSlot 6)), (false, (eSlot 4))])))
 (mIf (tOf (eOp (gB2 (gCmp .In)) [(eSlot 6), (eSlot 2)]))
 (sSeq (mWhile (tAnd (tOf (eOp (gB2 (gCmp .NotEq)) [(eSlot 6), (eDat (.str "0"))])) (tAnd (tOf (eOp (gB2 (gCmp .Lt)) [(eSlot 7), (eOp (g1 gLen) [(eSlot 0)])])) (tOf (eOp (gB2 (gCmp .In)) [(eOp (g2 gIdx) [(eSlot 0), (eSlot 7)]), (eSlot 2)]))))
 (sSet (gName 7) (eOp (g2 (gBin .Add)) [(eSlot 7), (eDat (.int 1))])))
 (sDo (eAppd 3 (eTup [(false, (eDat (.str "numeral"))), (false, (eCut (eSlot 0) (some (eSlot 4)) (some (eSlot 7)))), (false, (eSlot 4))]))))
 (mIf (tOf (eOp (gB2 (gCmp .In)) [(eSlot 6), (eSlot 5)]))
 (sSeq (mWhile (tAnd (tOf (eOp (gB2 (gCmp .Lt)) [(eSlot 7), (eOp (g1 gLen) [(eSlot 0)])])) (tOf (eOp (gB2 (gCmp .In)) [(eOp (g2 gIdx) [(eSlot 0), (eSlot 7)]), (eSlot 5)])))
 (sSet (gName 7) (eOp (g2 (gBin .Add)) [(eSlot 7), (eDat (.int 1))])))
 (sDo (eAppd 3 (eTup [(false, (eDat (.str "word"))), (false, (eCut (eSlot 0) (some (eSlot 4)) (some (eSlot 7)))), (false, (eSlot 4))]))))
 (mIf (tOf (eOp (gB2 (gCmp .NotIn)) [(eSlot 6), (eDat (.str " \n"))]))
 (sRet 1 (eOp (g2 (gBin .Add)) [(eSlot 3), (eLst [(false, (eTup [(false, (eDat (.str "wrong"))), (false, (eDat (.str ""))), (false, (eSlot 4))]))])]))
 (ret .nx)))))
 (sSet (gName 4) (eSlot 7)))))
 (sRet 1 (eOp (g2 (gBin .Add)) [(eSlot 3), (eLst [(false, (eTup [(false, (eDat (.str "end"))), (false, (eDat (.str ""))), (false, (eOp (g1 gLen) [(eSlot 0)]))]))])]))))))
def F__law_lexemes : FN := fnOf 1 7 [1, 2, 3, 4, 5, 6, 7] m__law_lexemes
theorem sc__law_lexemes : FnScope ["text", "small", "figures", "found", "place", "signs", "sign", "end"] ["text"] (defScope Hd.s__law_lexemes) := ⟨rfl, rfl, rfl, by decide +kernel, rfl, by decide +kernel, by decide +kernel⟩
theorem c__law_lexemes {P : Program} {w : World} {K : PySem.W.Frag} {mg : Str → Option Value} {base : Heap} {f : Addr} {fd : FuncData} (fx : Fx P K mg)  (Fd : FunD K "_law_lexemes" "_law_lexemes" (defArgs Hd.s__law_lexemes) (defBody Hd.s__law_lexemes) (defScope Hd.s__law_lexemes) [] [] f fd) (hmg : mg "_law_lexemes" = some (.ref f)) :
    CalF P w K mg base 1 "_law_lexemes" 1 F__law_lexemes := by
  have hN := sc__law_lexemes.nd
  refine cal_fn (N := ["text", "small", "figures", "found", "place", "signs", "sign", "end"]) Fd sc__law_lexemes rfl rfl hmg (Fd.bindsN fun _ _ _ _ _ _ us hl => match us, hl with | [_], _ => rfl) fun cdv A outer s H E hG hr W tk => ?_
  have hu64 := hr.units
  have hu65 : (A.deeper (PyProof.Rows.envOfC "_law_lexemes" (defScope Hd.s__law_lexemes) s.heap.objs.size f cdv)).units + 65 < cLine := by have := hr.un; omega
  have hu66 : (A.deeper (PyProof.Rows.envOfC "_law_lexemes" (defScope Hd.s__law_lexemes) s.heap.objs.size f cdv)).units + 66 < cLine := by have := hr.un; omega
  exact (ss_cons (ss_set (i := 1) hN rfl (by first | exact .inl rfl | exact .inr rfl) (by first | exact .inl rfl | exact .inr rfl) (by decide) se_str (by first | rfl | exact swaps_no rfl _ _ _))
 (ss_cons (by first | exact ss_par3 (i := 2) (j := 3) (l := 4) (by decide) rfl hN rfl rfl rfl (by decide) (by decide) (by decide) rfl rfl rfl (sa_cons rfl se_str (sa_cons rfl (se_lst saS_nil) (sa_cons rfl se_int sa_nil))) rfl rfl | exact ss_parN (by decide) rfl rfl rfl (by rw [sizeLine_eq]; decide) (sa_cons rfl se_str (sa_cons rfl (se_lst saS_nil) (sa_cons rfl se_int sa_nil))) (pgs_consN (i := 2) hN rfl (by first | exact .inl rfl | exact .inr rfl) (by first | exact .inl rfl | exact .inr rfl) (pgs_consN (i := 3) hN rfl (by first | exact .inl rfl | exact .inr rfl) (by first | exact .inl rfl | exact .inr rfl) (pgs_consN (i := 4) hN rfl (by first | exact .inl rfl | exact .inr rfl) (by first | exact .inl rfl | exact .inr rfl) pgs_nilN (is := [])))) rfl rfl)
 (ss_cons (ss_set (i := 5) hN rfl (by first | exact .inl rfl | exact .inr rfl) (by first | exact .inl rfl | exact .inr rfl) (by decide) (se_bin (se_bin (se_name (i := 1) rfl (by first | exact .inl rfl | exact .inr (.inl rfl) | exact .inr (.inr rfl)) rfl rfl) (se_mt0 (by simp) PySem.F.plainAttrs_str PySem.F.slot_str_upper PySem.F.type_str_upper bm_upper (se_name (i := 1) rfl (by first | exact .inl rfl | exact .inr (.inl rfl) | exact .inr (.inr rfl)) rfl rfl) rfl rfl)) (se_name (i := 2) rfl (by first | exact .inl rfl | exact .inr (.inl rfl) | exact .inr (.inr rfl)) rfl rfl)) (by first | rfl | exact swaps_no rfl _ _ _))
 (ss_cons (ss_while (passes_of rfl) (st_cmp hu65 rfl (se_name (i := 4) rfl (by first | exact .inl rfl | exact .inr (.inl rfl) | exact .inr (.inr rfl)) rfl rfl) (se_callB br_len rfl fx.f_len rfl rfl (sa_cons rfl (se_name (i := 0) rfl (by first | exact .inl rfl | exact .inr (.inl rfl) | exact .inr (.inr rfl)) rfl rfl) sa_nil) (by decide) rfl rfl))
 (ss_cons (by first | exact ss_par2 (i := 6) (j := 7) (by decide) rfl hN rfl rfl (by decide) rfl rfl (sa_cons rfl (se_idx rfl (se_name (i := 0) rfl (by first | exact .inl rfl | exact .inr (.inl rfl) | exact .inr (.inr rfl)) rfl rfl) (se_name (i := 4) rfl (by first | exact .inl rfl | exact .inr (.inl rfl) | exact .inr (.inr rfl)) rfl rfl)) (sa_cons rfl (se_bin (se_name (i := 4) rfl (by first | exact .inl rfl | exact .inr (.inl rfl) | exact .inr (.inr rfl)) rfl rfl) se_int) sa_nil)) rfl rfl | exact ss_parN (by decide) rfl rfl rfl (by rw [sizeLine_eq]; decide) (sa_cons rfl (se_idx rfl (se_name (i := 0) rfl (by first | exact .inl rfl | exact .inr (.inl rfl) | exact .inr (.inr rfl)) rfl rfl) (se_name (i := 4) rfl (by first | exact .inl rfl | exact .inr (.inl rfl) | exact .inr (.inr rfl)) rfl rfl)) (sa_cons rfl (se_bin (se_name (i := 4) rfl (by first | exact .inl rfl | exact .inr (.inl rfl) | exact .inr (.inr rfl)) rfl rfl) se_int) sa_nil)) (pgs_consN (i := 6) hN rfl (by first | exact .inl rfl | exact .inr rfl) (by first | exact .inl rfl | exact .inr rfl) (pgs_consN (i := 7) hN rfl (by first | exact .inl rfl | exact .inr rfl) (by first | exact .inl rfl | exact .inr rfl) pgs_nilN (is := []))) rfl rfl)
 (ss_cons (ss_if (st_cmp hu65 rfl (se_name (i := 6) rfl (by first | exact .inl rfl | exact .inr (.inl rfl) | exact .inr (.inr rfl)) rfl rfl) se_str)
 (ss_one (ss_do rfl (se_app (i := 3) rfl (by first | exact .inl rfl | exact .inr (.inl rfl) | exact .inr (.inr rfl)) rfl rfl rfl (se_tup (saS_cons rfl se_str (saS_cons rfl (se_name (i := 6) rfl (by first | exact .inl rfl | exact .inr (.inl rfl) | exact .inr (.inr rfl)) rfl rfl) (saS_cons rfl (se_name (i := 4) rfl (by first | exact .inl rfl | exact .inr (.inl rfl) | exact .inr (.inr rfl)) rfl rfl) saS_nil)))) rfl rfl rfl)))
 (ss_one (ss_if (st_cmp hu65 rfl (se_name (i := 6) rfl (by first | exact .inl rfl | exact .inr (.inl rfl) | exact .inr (.inr rfl)) rfl rfl) (se_name (i := 2) rfl (by first | exact .inl rfl | exact .inr (.inl rfl) | exact .inr (.inr rfl)) rfl rfl))
 (ss_cons (ss_while (passes_of rfl) (L2.PW.pt (sw_and (st_cmp hu65 rfl (se_name (i := 6) rfl (by first | exact .inl rfl | exact .inr (.inl rfl) | exact .inr (.inr rfl)) rfl rfl) se_str) (sw_and (st_cmp hu65 rfl (se_name (i := 7) rfl (by first | exact .inl rfl | exact .inr (.inl rfl) | exact .inr (.inr rfl)) rfl rfl) (se_callB br_len rfl fx.f_len rfl rfl (sa_cons rfl (se_name (i := 0) rfl (by first | exact .inl rfl | exact .inr (.inl rfl) | exact .inr (.inr rfl)) rfl rfl) sa_nil) (by decide) rfl rfl)) (sw_and1 (st_cmp hu65 rfl (se_idx rfl (se_name (i := 0) rfl (by first | exact .inl rfl | exact .inr (.inl rfl) | exact .inr (.inr rfl)) rfl rfl) (se_name (i := 7) rfl (by first | exact .inl rfl | exact .inr (.inl rfl) | exact .inr (.inr rfl)) rfl rfl)) (se_name (i := 2) rfl (by first | exact .inl rfl | exact .inr (.inl rfl) | exact .inr (.inr rfl)) rfl rfl))))))
 (ss_one (ss_set (i := 7) hN rfl (by first | exact .inl rfl | exact .inr rfl) (by first | exact .inl rfl | exact .inr rfl) (by decide) (se_bin (se_name (i := 7) rfl (by first | exact .inl rfl | exact .inr (.inl rfl) | exact .inr (.inr rfl)) rfl rfl) se_int) (by first | rfl | exact swaps_no rfl _ _ _))))
 (ss_one (ss_do rfl (se_app (i := 3) rfl (by first | exact .inl rfl | exact .inr (.inl rfl) | exact .inr (.inr rfl)) rfl rfl rfl (se_tup (saS_cons rfl se_str (saS_cons rfl (se_cut (se_name (i := 0) rfl (by first | exact .inl rfl | exact .inr (.inl rfl) | exact .inr (.inr rfl)) rfl rfl) (so_some (se_name (i := 4) rfl (by first | exact .inl rfl | exact .inr (.inl rfl) | exact .inr (.inr rfl)) rfl rfl)) (so_some (se_name (i := 7) rfl (by first | exact .inl rfl | exact .inr (.inl rfl) | exact .inr (.inr rfl)) rfl rfl))) (saS_cons rfl (se_name (i := 4) rfl (by first | exact .inl rfl | exact .inr (.inl rfl) | exact .inr (.inr rfl)) rfl rfl) saS_nil)))) rfl rfl rfl))))
 (ss_one (ss_if (st_cmp hu65 rfl (se_name (i := 6) rfl (by first | exact .inl rfl | exact .inr (.inl rfl) | exact .inr (.inr rfl)) rfl rfl) (se_name (i := 5) rfl (by first | exact .inl rfl | exact .inr (.inl rfl) | exact .inr (.inr rfl)) rfl rfl))
 (ss_cons (ss_while (passes_of rfl) (L2.PW.pt (sw_and (st_cmp hu65 rfl (se_name (i := 7) rfl (by first | exact .inl rfl | exact .inr (.inl rfl) | exact .inr (.inr rfl)) rfl rfl) (se_callB br_len rfl fx.f_len rfl rfl (sa_cons rfl (se_name (i := 0) rfl (by first | exact .inl rfl | exact .inr (.inl rfl) | exact .inr (.inr rfl)) rfl rfl) sa_nil) (by decide) rfl rfl)) (sw_and1 (st_cmp hu65 rfl (se_idx rfl (se_name (i := 0) rfl (by first | exact .inl rfl | exact .inr (.inl rfl) | exact .inr (.inr rfl)) rfl rfl) (se_name (i := 7) rfl (by first | exact .inl rfl | exact .inr (.inl rfl) | exact .inr (.inr rfl)) rfl rfl)) (se_name (i := 5) rfl (by first | exact .inl rfl | exact .inr (.inl rfl) | exact .inr (.inr rfl)) rfl rfl)))))
 (ss_one (ss_set (i := 7) hN rfl (by first | exact .inl rfl | exact .inr rfl) (by first | exact .inl rfl | exact .inr rfl) (by decide) (se_bin (se_name (i := 7) rfl (by first | exact .inl rfl | exact .inr (.inl rfl) | exact .inr (.inr rfl)) rfl rfl) se_int) (by first | rfl | exact swaps_no rfl _ _ _))))
 (ss_one (ss_do rfl (se_app (i := 3) rfl (by first | exact .inl rfl | exact .inr (.inl rfl) | exact .inr (.inr rfl)) rfl rfl rfl (se_tup (saS_cons rfl se_str (saS_cons rfl (se_cut (se_name (i := 0) rfl (by first | exact .inl rfl | exact .inr (.inl rfl) | exact .inr (.inr rfl)) rfl rfl) (so_some (se_name (i := 4) rfl (by first | exact .inl rfl | exact .inr (.inl rfl) | exact .inr (.inr rfl)) rfl rfl)) (so_some (se_name (i := 7) rfl (by first | exact .inl rfl | exact .inr (.inl rfl) | exact .inr (.inr rfl)) rfl rfl))) (saS_cons rfl (se_name (i := 4) rfl (by first | exact .inl rfl | exact .inr (.inl rfl) | exact .inr (.inr rfl)) rfl rfl) saS_nil)))) rfl rfl rfl))))
 (ss_one (ss_if (st_cmp hu65 rfl (se_name (i := 6) rfl (by first | exact .inl rfl | exact .inr (.inl rfl) | exact .inr (.inr rfl)) rfl rfl) se_str)
 (ss_one (ss_ret (np := 1) (se_bin (se_name (i := 3) rfl (by first | exact .inl rfl | exact .inr (.inl rfl) | exact .inr (.inr rfl)) rfl rfl) (se_lst (saS_cons rfl (se_tup (saS_cons rfl se_str (saS_cons rfl se_str (saS_cons rfl (se_name (i := 4) rfl (by first | exact .inl rfl | exact .inr (.inl rfl) | exact .inr (.inr rfl)) rfl rfl) saS_nil)))) saS_nil)))))
 ss_nil)))))))
 (ss_one (ss_set (i := 4) hN rfl (by first | exact .inl rfl | exact .inr rfl) (by first | exact .inl rfl | exact .inr rfl) (by decide) (se_name (i := 7) rfl (by first | exact .inl rfl | exact .inr (.inl rfl) | exact .inr (.inr rfl)) rfl rfl) (by first | rfl | exact swaps_no rfl _ _ _))))))
 (ss_one (ss_ret (np := 1) (se_bin (se_name (i := 3) rfl (by first | exact .inl rfl | exact .inr (.inl rfl) | exact .inr (.inr rfl)) rfl rfl) (se_lst (saS_cons rfl (se_tup (saS_cons rfl se_str (saS_cons rfl se_str (saS_cons rfl (se_callB br_len rfl fx.f_len rfl rfl (sa_cons rfl (se_name (i := 0) rfl (by first | exact .inl rfl | exact .inr (.inl rfl) | exact .inr (.inr rfl)) rfl rfl) sa_nil) (by decide) rfl rfl) saS_nil)))) saS_nil)))))))))

def m__law_is_name : M Flw :=
 (sSeq (sSet (gName 2) (eDat (.str "abcdefghijklmnopqrstuvwxyz")))
 (sSeq (mIf (tOr (tNot (tOf (eOp (g1 (gIsi "str")) [(eSlot 1)]))) (tOr (tOf (eOp (gB2 (gCmp .Lt)) [(eOp (g1 gLen) [(eSlot 1)]), (eDat (.int 1))])) (tOr (tOf (eOp (gB2 (gCmp .Gt)) [(eOp (g1 gLen) [(eSlot 1)]), (eDat (.int 12))])) (tOf (eOp (gB2 (gCmp .NotIn)) [(eOp (g2 gIdx) [(eSlot 1), (eDat (.int 0))]), (eOp (g2 (gBin .Add)) [(eSlot 2), (eMt "str" gUpper (eSlot 2) (evs []))])])))))
 (sRet 2 (eDat (.bool false)))
 (ret .nx))
 (sSeq (mIf (tOr (tOf (eOp (gB2 (gCmp .NotEq)) [(eComp (itE (eCut (eSlot 1) (some (eDat (.int 1))) none)) (gName 3) (tOf (eOp (gB2 (gCmp .NotIn)) [(eSlot 3), (eOp (g2 (gBin .Add)) [(eSlot 2), (eDat (.str "0123456789"))])])) (eSlot 3) [3]), (eLst [])])) (tOf (eOp (gB2 (gCmp .In)) [(eSlot 1), (eCall F__law_kept (evs []))])))
 (sRet 2 (eDat (.bool false)))
 (ret .nx))
 (sRet 2 (eOr (eOp (gB2 (gCmp .Gt)) [(eOp (g1 gLen) [(eSlot 1)]), (eDat (.int 1))]) (eOp (gB2 (gCmp .NotIn)) [(eSlot 1), (eOp (g1 gListX) [(eSlot 0)])]))))))
def F__law_is_name : FN := fnOf 2 2 [2] m__law_is_name
theorem sc__law_is_name : FnScope ["letters", "value", "small", "sign"] ["letters", "value"] (defScope Hd.s__law_is_name) := ⟨rfl, rfl, rfl, by decide +kernel, rfl, by decide +kernel, by decide +kernel⟩
theorem c__law_is_name {P : Program} {w : World} {K : PySem.W.Frag} {mg : Str → Option Value} {base : Heap} {f : Addr} {fd : FuncData} (fx : Fx P K mg) (c__law_kept : CalF P w K mg base 1 "_law_kept" 0 F__law_kept) (Fd : FunD K "_law_is_name" "_law_is_name" (defArgs Hd.s__law_is_name) (defBody Hd.s__law_is_name) (defScope Hd.s__law_is_name) [] [] f fd) (hmg : mg "_law_is_name" = some (.ref f)) :
    CalF P w K mg base 2 "_law_is_name" 2 F__law_is_name := by
  have hN := sc__law_is_name.nd
  refine cal_fn (N := ["letters", "value", "small", "sign"]) Fd sc__law_is_name rfl rfl hmg (Fd.bindsN fun _ _ _ _ _ _ us hl => match us, hl with | [_, _], _ => rfl) fun cdv A outer s H E hG hr W tk => ?_
  have hu64 := hr.units
  have hu65 : (A.deeper (PyProof.Rows.envOfC "_law_is_name" (defScope Hd.s__law_is_name) s.heap.objs.size f cdv)).units + 65 < cLine := by have := hr.un; omega
  have hu66 : (A.deeper (PyProof.Rows.envOfC "_law_is_name" (defScope Hd.s__law_is_name) s.heap.objs.size f cdv)).units + 66 < cLine := by have := hr.un; omega
  exact (ss_cons (ss_set (i := 2) hN rfl (by first | exact .inl rfl | exact .inr rfl) (by first | exact .inl rfl | exact .inr rfl) (by decide) se_str (by first | rfl | exact swaps_no rfl _ _ _))
 (ss_cons (ss_if (L2.PW.pt (sw_or (st_not (st_of rfl (se_isi rfl fx.f_isinstance rfl (by decide) rfl rfl (se_name (i := 1) rfl (by first | exact .inl rfl | exact .inr (.inl rfl) | exact .inr (.inr rfl)) rfl rfl) rfl fx.f_str rfl (by decide) rfl (by decide)))) (sw_or (st_cmp hu65 rfl (se_callB br_len rfl fx.f_len rfl rfl (sa_cons rfl (se_name (i := 1) rfl (by first | exact .inl rfl | exact .inr (.inl rfl) | exact .inr (.inr rfl)) rfl rfl) sa_nil) (by decide) rfl rfl) se_int) (sw_or (st_cmp hu65 rfl (se_callB br_len rfl fx.f_len rfl rfl (sa_cons rfl (se_name (i := 1) rfl (by first | exact .inl rfl | exact .inr (.inl rfl) | exact .inr (.inr rfl)) rfl rfl) sa_nil) (by decide) rfl rfl) se_int) (sw_or1 (st_cmp hu65 rfl (se_idx rfl (se_name (i := 1) rfl (by first | exact .inl rfl | exact .inr (.inl rfl) | exact .inr (.inr rfl)) rfl rfl) se_int) (se_bin (se_name (i := 2) rfl (by first | exact .inl rfl | exact .inr (.inl rfl) | exact .inr (.inr rfl)) rfl rfl) (se_mt0 (by simp) PySem.F.plainAttrs_str PySem.F.slot_str_upper PySem.F.type_str_upper bm_upper (se_name (i := 2) rfl (by first | exact .inl rfl | exact .inr (.inl rfl) | exact .inr (.inr rfl)) rfl rfl) rfl rfl))))))))
 (ss_one (ss_ret (np := 2) se_bool))
 ss_nil)
 (ss_cons (ss_if (L2.PW.pt (sw_or (st_cmp hu65 rfl (se_comp (own := [("sign", 3)]) rfl hN (by decide) (by decide) (blkOk_by (by rfl)) (si_e (se_cut (se_name (i := 1) rfl (by first | exact .inl rfl | exact .inr (.inl rfl) | exact .inr (.inr rfl)) rfl rfl) (so_some se_int) so_none)) (fun _ _ _ _ _ => (sg_name (i := 3) hN rfl (by first | exact .inl rfl | exact .inr rfl) (by first | exact .inl rfl | exact .inr rfl))) (fun _ _ _ _ _ => (sts_one (st_cmp hu65 rfl (se_name (i := 3) rfl (by first | exact .inl rfl | exact .inr (.inl rfl) | exact .inr (.inr rfl)) rfl rfl) (se_bin (se_name (i := 2) rfl (by first | exact .inl rfl | exact .inr (.inl rfl) | exact .inr (.inr rfl)) rfl rfl) se_str)))) (fun _ _ _ _ _ => (se_name (i := 3) rfl (by first | exact .inl rfl | exact .inr (.inl rfl) | exact .inr (.inr rfl)) rfl rfl)) (fun _ => rfl)) (se_lst saS_nil)) (sw_or1 (st_cmp hu65 rfl (se_name (i := 1) rfl (by first | exact .inl rfl | exact .inr (.inl rfl) | exact .inr (.inr rfl)) rfl rfl) (se_call0 c__law_kept tk hG (hr.mono (by decide)) rfl rfl)))))
 (ss_one (ss_ret (np := 2) se_bool))
 ss_nil)
 (ss_one (ss_ret (np := 2) (se_or (se_cmp hu65 rfl (se_callB br_len rfl fx.f_len rfl rfl (sa_cons rfl (se_name (i := 1) rfl (by first | exact .inl rfl | exact .inr (.inl rfl) | exact .inr (.inr rfl)) rfl rfl) sa_nil) (by decide) rfl rfl) se_int) (se_one (se_cmp hu65 rfl (se_name (i := 1) rfl (by first | exact .inl rfl | exact .inr (.inl rfl) | exact .inr (.inr rfl)) rfl rfl) (se_callTy (br_listX rfl) rfl fx.f_list rfl rfl (sa_cons rfl (se_name (i := 0) rfl (by first | exact .inl rfl | exact .inr (.inl rfl) | exact .inr (.inr rfl)) rfl rfl) sa_nil) (by decide) rfl rfl)))))))))

def m__law_told_lexemes : M Flw :=
 (sTryRet "BadText" "place" 1 (.str "refused") (sRet 1 (eTup [(false, (eDat (.str "told"))), (false, (eCall F_lexemes (evs [(eSlot 0)])))])))
def F__law_told_lexemes : FN := fnOf 1 1 [1] m__law_told_lexemes
theorem sc__law_told_lexemes : FnScope ["text", "error"] ["text"] (defScope Hd.s__law_told_lexemes) := ⟨rfl, rfl, rfl, by decide +kernel, rfl, by decide +kernel, by decide +kernel⟩
theorem c__law_told_lexemes {P : Program} {w : World} {K : PySem.W.Frag} {mg : Str → Option Value} {base : Heap} {f : Addr} {fd : FuncData} (fx : Fx P K mg) (c_lexemes : CalF P w K mg base 3 "lexemes" 1 F_lexemes) (Fd : FunD K "_law_told_lexemes" "_law_told_lexemes" (defArgs Hd.s__law_told_lexemes) (defBody Hd.s__law_told_lexemes) (defScope Hd.s__law_told_lexemes) [] [] f fd) (hmg : mg "_law_told_lexemes" = some (.ref f)) :
    CalF P w K mg base 4 "_law_told_lexemes" 1 F__law_told_lexemes := by
  have hN := sc__law_told_lexemes.nd
  refine cal_fn (N := ["text", "error"]) Fd sc__law_told_lexemes rfl rfl hmg (Fd.bindsN fun _ _ _ _ _ _ us hl => match us, hl with | [_], _ => rfl) fun cdv A outer s H E hG hr W tk => ?_
  have hu64 := hr.units
  have hu65 : (A.deeper (PyProof.Rows.envOfC "_law_told_lexemes" (defScope Hd.s__law_told_lexemes) s.heap.objs.size f cdv)).units + 65 < cLine := by have := hr.un; omega
  have hu66 : (A.deeper (PyProof.Rows.envOfC "_law_told_lexemes" (defScope Hd.s__law_told_lexemes) s.heap.objs.size f cdv)).units + 66 < cLine := by have := hr.un; omega
  exact (ss_one (ss_tryRet (i := 1) rfl rfl hN rfl rfl fx.y_BadText rfl rfl tk rfl rfl (fun _ _ _ tk hpo => (ss_one (ss_ret (np := 1) (se_tup (saS_cons rfl se_str (saS_cons rfl (se_call c_lexemes tk hG (hr.mono (by decide)) rfl (sa_cons rfl (se_name (i := 0) rfl (by first | exact .inl rfl | exact .inr (.inl rfl) | exact .inr (.inr rfl)) rfl rfl) sa_nil) rfl rfl rfl) saS_nil)))))) (fun _ => rfl)))

def m_law : M Flw :=
 (sSeq (sSet (gName 1) (eCall F__law_source (evs [(eSlot 0)])))
 (sSeq (sFor (itRng1 (eDat (.int 8))) (gName 2)
 (sSeq (sSet (gName 3) (eLst [(false, (eDat (.str "a"))), (false, (eDat (.str "ab"))), (false, (eDat (.str "X"))), (false, (eDat (.str "Xs1"))), (false, (eDat (.str "x0"))), (false, (eDat (.str "some"))), (false, (eDat (.str "not"))), (false, (eDat (.str "007"))), (false, (eDat (.str "12"))), (false, (eDat (.str "0"))), (false, (eDat (.str "("))), (false, (eDat (.str ")"))), (false, (eDat (.str ","))), (false, (eDat (.str ":"))), (false, (eDat (.str ";"))), (false, (eDat (.str " "))), (false, (eDat (.str "\n"))), (false, (eDat (.str "z9Q")))]))
 (sSeq (sSet (gName 4) (eMt "str" gJoin (eDat (.str "")) (evs [(eComp (itRng1 (eCall F__law_pick (evs [(eSlot 1), (eDat (.int 12))]))) (gName 5) (ret true) (eCall F__law_of (evs [(eSlot 1), (eSlot 3)])) [5])])))
 (sSeq (mIf (tOf (eOp (gB2 (gCmp .Eq)) [(eCall F__law_pick (evs [(eSlot 1), (eDat (.int 3))])), (eDat (.int 0))]))
 (sSeq (sSet (gName 5) (eCall F__law_pick (evs [(eSlot 1), (eOp (g2 (gBin .Add)) [(eOp (g1 gLen) [(eSlot 4)]), (eDat (.int 1))])])))
 (sSet (gName 4) (eOp (g2 (gBin .Add)) [(eOp (g2 (gBin .Add)) [(eCut (eSlot 4) none (some (eSlot 5))), (eCall F__law_of (evs [(eSlot 1), (eLst [(false, (eDat (.str "?"))), (false, (eDat (.str "."))), (false, (eDat (.str "\t"))), (false, (eDat (.str "-"))), (false, (eDat (.str "_"))), (false, (eDat (.str "=")))])]))]), (eCut (eSlot 4) (some (eSlot 5)) none)])))
 (ret .nx))
 (sSeq (sSet (gName 6) (eCall F__law_lexemes (evs [(eSlot 4)])))
 (sSeq (sSet (gName 6) (mIf (tOf (eOp (gB2 (gCmp .Eq)) [(eOp (g2 gIdx) [(eOp (g2 gIdx) [(eSlot 6), (eOp (g1 (gUn .USub)) [(eDat (.int 1))])]), (eDat (.int 0))]), (eDat (.str "end"))])) (eTup [(false, (eDat (.str "told"))), (false, (eCut (eSlot 6) none (some (eOp (g1 (gUn .USub)) [(eDat (.int 1))]))))]) (eTup [(false, (eDat (.str "refused"))), (false, (eOp (g2 gIdx) [(eOp (g2 gIdx) [(eSlot 6), (eOp (g1 (gUn .USub)) [(eDat (.int 1))])]), (eDat (.int 2))]))])))
 (mIf (tOf (eOp (gB2 (gCmp .NotEq)) [(eOp (g1 gRepr) [(eCall F__law_told_lexemes (evs [(eSlot 4)]))]), (eOp (g1 gRepr) [(eSlot 6)])]))
 (sRet 1 (eDat (.bool false)))
 (ret .nx))))))))
 (sSeq (sSet (gName 7) (eCall F__law_of (evs [(eSlot 1), (eLst [(false, (eDat (.str "a"))), (false, (eDat (.str "ab"))), (false, (eDat (.str "abc"))), (false, (eDat (.str "acdz"))), (false, (eDat (.str "xy")))])])))
 (sSeq (sSet (gName 8) (eLst [(false, (eDat .none)), (false, (eDat (.bool true))), (false, (eDat (.int 0))), (false, (eTup [])), (false, (eTup [(false, (eDat (.str "a")))])), (false, (eLst [(false, (eDat (.str "a"))), (false, (eDat (.str "b")))])), (false, (eDat (.str ""))), (false, (eDat (.str "a"))), (false, (eDat (.str "ba"))), (false, (eDat (.str "aa"))), (false, (eDat (.str "abcd"))), (false, (eDat (.str "abcde"))), (false, (eDat (.str "aB"))), (false, (eDat (.str "a1"))), (false, (eDat (.str "az"))), (false, (eDat (.str "x"))), (false, (eDat (.str "xyz")))]))
 (sSeq (sFor (itE (eOp (g2 (gBin .Add)) [(eSlot 8), (eLst [(false, (eSlot 7)), (false, (eOp (g2 (gBin .Add)) [(eSlot 7), (eCut (eSlot 7) none (some (eDat (.int 1))))])), (false, (eOp (g1 gRevX) [(eSlot 7)])), (false, (eCall F__law_of (evs [(eSlot 1), (eCall F__law_kept (evs []))])))])])) (gName 9)
 (sSeq (sSet (gName 10) (eAnd (eOp (g1 (gIsi "str")) [(eSlot 9)]) (eAnd (eOp (gB2 (gCmp .NotEq)) [(eSlot 9), (eDat (.str ""))]) (eOp (gB2 (gCmp .Lt)) [(eOp (g1 gLen) [(eSlot 9)]), (eDat (.int 5))]))))
 (sSeq (sSet (gName 11) (eAnd (eSlot 10) (eOp (gB2 (gCmp .Eq)) [(eComp (itE (eSlot 9)) (gName 16) (tOf (eOp (gB2 (gCmp .NotIn)) [(eSlot 16), (eDat (.str "abcdefghijklmnopqrstuvwxyz"))])) (eSlot 16) [16]), (eLst [])])))
 (sSeq (sSet (gName 11) (eAnd (eSlot 11) (eOp (gB2 (gCmp .Eq)) [(eComp (itZip [(eSlot 9), (eCut (eSlot 9) (some (eDat (.int 1))) none)]) (gTup [(gName 17), (gName 18)]) (tOf (eOp (gB2 (gCmp .GtE)) [(eSlot 17), (eSlot 18)])) (eDat (.int 1)) [17, 18]), (eLst [])])))
 (sSeq (mIf (tOf (eOp (gB2 (gCmp .NotEq)) [(eOp (g1 gRepr) [(eCall F_are_letters (evs [(eSlot 9)]))]), (eOp (g1 gRepr) [(eSlot 11)])]))
 (sRet 1 (eDat (.bool false)))
 (ret .nx))
 (sSeq (sSet (gName 12) (eAnd (eOp (g1 (gIsi "str")) [(eSlot 9)]) (eOp (gB2 (gCmp .Eq)) [(eComp (itE (eSlot 9)) (gName 16) (tOf (eOp (gB2 (gCmp .NotIn)) [(eSlot 16), (eOp (g1 gListX) [(eSlot 7)])])) (eSlot 16) [16]), (eLst [])])))
 (mIf (tOf (eOp (gB2 (gCmp .NotEq)) [(eOp (g1 gRepr) [(eCall F_is_word_of (evs [(eSlot 7), (eSlot 9)]))]), (eOp (g1 gRepr) [(eSlot 12)])]))
 (sRet 1 (eDat (.bool false)))
 (ret .nx))))))))
 (sSeq (sSet (gName 13) (eOp (g2 (gBin .Add)) [(eOp (g2 (gBin .Add)) [(eSlot 8), (eCall F__law_kept (evs []))]), (eLst [(false, (eDat (.str "x"))), (false, (eDat (.str "X"))), (false, (eDat (.str "xX"))), (false, (eDat (.str "x1"))), (false, (eDat (.str "X1b"))), (false, (eDat (.str "1x"))), (false, (eOp (g2 (gBin .Mult)) [(eDat (.str "x")), (eDat (.int 12))])), (false, (eOp (g2 (gBin .Mult)) [(eDat (.str "x")), (eDat (.int 13))])), (false, (eDat (.str "Not"))), (false, (eDat (.str "nots"))), (false, (eDat (.str "A"))), (false, (eDat (.str "x-"))), (false, (eDat (.str "B2")))])]))
 (sSeq (sFor (itE (eOp (g2 (gBin .Add)) [(eSlot 13), (eLst [(false, (eSlot 7)), (false, (eCut (eSlot 7) none (some (eDat (.int 1))))), (false, (eOp (g2 (gBin .Add)) [(eCut (eSlot 7) none (some (eDat (.int 1)))), (eDat (.str "0"))]))])])) (gName 9)
 (sSeq (sPar [6, 14] [(eCall F__law_is_name (evs [(eSlot 7), (eSlot 9)])), (eDat (.str "abcdefghijklmnopqrstuvwxyz"))])
 (sSeq (sSet (gName 15) (eLst [(false, (eCall F_is_name (evs [(eSlot 7), (eSlot 9)]))), (false, (eCall F_is_small_name (evs [(eSlot 7), (eSlot 9)]))), (false, (eCall F_is_big_name (evs [(eSlot 7), (eSlot 9)])))]))
 (mIf (tOf (eOp (gB2 (gCmp .NotEq)) [(eOp (g1 gRepr) [(eSlot 15)]), (eOp (g1 gRepr) [(eLst [(false, (eSlot 6)), (false, (eAnd (eSlot 6) (eOp (gB2 (gCmp .In)) [(eOp (g2 gIdx) [(eSlot 9), (eDat (.int 0))]), (eSlot 14)]))), (false, (eAnd (eSlot 6) (eOp (gB2 (gCmp .NotIn)) [(eOp (g2 gIdx) [(eSlot 9), (eDat (.int 0))]), (eSlot 14)])))])])]))
 (sRet 1 (eDat (.bool false)))
 (ret .nx)))))
 (sRet 1 (eOp (gB2 (gCmp .Eq)) [(eOp (g2 gIdx) [(eCall F_lexemes (evs [(eDat (.str "a(x0)"))])), (eDat (.int 2))]), (eTup [(false, (eDat (.str "word"))), (false, (eDat (.str "x0"))), (false, (eDat (.int 2)))])])))))))))
def F_law : FN := fnOf 1 18 [1, 2, 3, 4, 5, 6, 7, 8, 9, 10, 11, 12, 13, 14, 15] m_law
theorem sc_law : FnScope ["script", "source", "lap", "some", "text", "k", "due", "letters", "odd", "value", "is_text", "is_one", "is_word", "values", "small", "told", "sign", "one", "other"] ["script"] (defScope Hd.s_law) := ⟨rfl, rfl, rfl, by decide +kernel, rfl, by decide +kernel, by decide +kernel⟩
theorem fnG_law {P : Program} {w : World} {K : PySem.W.Frag} {mg : Str → Option Value} {base : Heap} {f : Addr} {fd : FuncData} (fx : Fx P K mg) (c__law_source : CalF P w K mg base 1 "_law_source" 1 F__law_source) (c__law_pick : CalF P w K mg base 1 "_law_pick" 2 F__law_pick) (c__law_of : CalF P w K mg base 2 "_law_of" 2 F__law_of) (c__law_lexemes : CalF P w K mg base 1 "_law_lexemes" 1 F__law_lexemes) (c__law_told_lexemes : CalF P w K mg base 4 "_law_told_lexemes" 1 F__law_told_lexemes) (c__law_kept : CalF P w K mg base 1 "_law_kept" 0 F__law_kept) (c_are_letters : CalF P w K mg base 1 "are_letters" 1 F_are_letters) (c_is_word_of : CalF P w K mg base 1 "is_word_of" 2 F_is_word_of) (c__law_is_name : CalF P w K mg base 2 "_law_is_name" 2 F__law_is_name) (c_is_name : CalF P w K mg base 1 "is_name" 2 F_is_name) (c_is_small_name : CalF P w K mg base 2 "is_small_name" 2 F_is_small_name) (c_is_big_name : CalF P w K mg base 2 "is_big_name" 2 F_is_big_name) (c_lexemes : CalF P w K mg base 3 "lexemes" 1 F_lexemes) (Fd : FunD K "law" "law" (defArgs Hd.s_law) (defBody Hd.s_law) (defScope Hd.s_law) [] [] f fd) (hmg : mg "law" = some (.ref f)) :
    FnG P w K mg base 5 f fd ["script"] (spF K 1 F_law) := by
  have hN := sc_law.nd
  refine fnG_fn (N := ["script", "source", "lap", "some", "text", "k", "due", "letters", "odd", "value", "is_text", "is_one", "is_word", "values", "small", "told", "sign", "one", "other"]) Fd sc_law rfl rfl fun cdv A outer s H E hG hr W tk => ?_
  have hu64 := hr.units
  have hu65 : (A.deeper (PyProof.Rows.envOfC "law" (defScope Hd.s_law) s.heap.objs.size f cdv)).units + 65 < cLine := by have := hr.un; omega
  have hu66 : (A.deeper (PyProof.Rows.envOfC "law" (defScope Hd.s_law) s.heap.objs.size f cdv)).units + 66 < cLine := by have := hr.un; omega
  exact (ss_cons (ss_set (i := 1) hN rfl (by first | exact .inl rfl | exact .inr rfl) (by first | exact .inl rfl | exact .inr rfl) (by decide) (se_call c__law_source tk hG (hr.mono (by decide)) rfl (sa_cons rfl (se_name (i := 0) rfl (by first | exact .inl rfl | exact .inr (.inl rfl) | exact .inr (.inr rfl)) rfl rfl) sa_nil) rfl rfl rfl) (by first | rfl | exact swaps_no rfl _ _ _))
 (ss_cons (ss_for (by decide) (passes_of rfl) rfl (si_range1 rfl rfl rfl fx.f_range se_int) (sg_name (i := 2) hN rfl (by first | exact .inl rfl | exact .inr rfl) (by first | exact .inl rfl | exact .inr rfl))
 (ss_cons (ss_set (i := 3) hN rfl (by first | exact .inl rfl | exact .inr rfl) (by first | exact .inl rfl | exact .inr rfl) (by decide) (se_lst (saS_cons rfl se_str (saS_cons rfl se_str (saS_cons rfl se_str (saS_cons rfl se_str (saS_cons rfl se_str (saS_cons rfl se_str (saS_cons rfl se_str (saS_cons rfl se_str (saS_cons rfl se_str (saS_cons rfl se_str (saS_cons rfl se_str (saS_cons rfl se_str (saS_cons rfl se_str (saS_cons rfl se_str (saS_cons rfl se_str (saS_cons rfl se_str (saS_cons rfl se_str (saS_cons rfl se_str saS_nil))))))))))))))))))) (by first | rfl | exact swaps_no rfl _ _ _))
 (ss_cons (ss_set (i := 4) hN rfl (by first | exact .inl rfl | exact .inr rfl) (by first | exact .inl rfl | exact .inr rfl) (by decide) (se_mt (by simp) PySem.F.plainAttrs_str PySem.F.slot_str_join PySem.F.type_str_join bm_join se_str (sa_cons rfl (se_comp (own := [("k", 5)]) rfl hN (by decide) (by decide) (blkOk_by (by rfl)) (si_range1 rfl rfl rfl fx.f_range (se_call c__law_pick tk hG (hr.mono (by decide)) rfl (sa_cons rfl (se_name (i := 1) rfl (by first | exact .inl rfl | exact .inr (.inl rfl) | exact .inr (.inr rfl)) rfl rfl) (sa_cons rfl se_int sa_nil)) rfl rfl rfl)) (fun _ _ _ _ _ => (sg_name (i := 5) hN rfl (by first | exact .inl rfl | exact .inr rfl) (by first | exact .inl rfl | exact .inr rfl))) (fun _ _ _ _ _ => sts_nil) (fun _ _ _ _ _ => (se_call c__law_of takes_no hG (hr.mono (by decide)) rfl (sa_cons rfl (se_name (i := 1) rfl (by first | exact .inl rfl | exact .inr (.inl rfl) | exact .inr (.inr rfl)) rfl rfl) (sa_cons rfl (se_name (i := 3) rfl (by first | exact .inl rfl | exact .inr (.inl rfl) | exact .inr (.inr rfl)) rfl rfl) sa_nil)) rfl rfl rfl)) (fun _ => rfl)) sa_nil) rfl rfl rfl rfl rfl) (by first | rfl | exact swaps_no rfl _ _ _))
 (ss_cons (ss_if (st_cmp hu65 rfl (se_call c__law_pick tk hG (hr.mono (by decide)) rfl (sa_cons rfl (se_name (i := 1) rfl (by first | exact .inl rfl | exact .inr (.inl rfl) | exact .inr (.inr rfl)) rfl rfl) (sa_cons rfl se_int sa_nil)) rfl rfl rfl) se_int)
 (ss_cons (ss_set (i := 5) hN rfl (by first | exact .inl rfl | exact .inr rfl) (by first | exact .inl rfl | exact .inr rfl) (by decide) (se_call c__law_pick tk hG (hr.mono (by decide)) rfl (sa_cons rfl (se_name (i := 1) rfl (by first | exact .inl rfl | exact .inr (.inl rfl) | exact .inr (.inr rfl)) rfl rfl) (sa_cons rfl (se_bin (se_callB br_len rfl fx.f_len rfl rfl (sa_cons rfl (se_name (i := 4) rfl (by first | exact .inl rfl | exact .inr (.inl rfl) | exact .inr (.inr rfl)) rfl rfl) sa_nil) (by decide) rfl rfl) se_int) sa_nil)) rfl rfl rfl) (by first | rfl | exact swaps_no rfl _ _ _))
 (ss_one (ss_set (i := 4) hN rfl (by first | exact .inl rfl | exact .inr rfl) (by first | exact .inl rfl | exact .inr rfl) (by decide) (se_bin (se_bin (se_cut (se_name (i := 4) rfl (by first | exact .inl rfl | exact .inr (.inl rfl) | exact .inr (.inr rfl)) rfl rfl) so_none (so_some (se_name (i := 5) rfl (by first | exact .inl rfl | exact .inr (.inl rfl) | exact .inr (.inr rfl)) rfl rfl))) (se_call c__law_of tk hG (hr.mono (by decide)) rfl (sa_cons rfl (se_name (i := 1) rfl (by first | exact .inl rfl | exact .inr (.inl rfl) | exact .inr (.inr rfl)) rfl rfl) (sa_cons rfl (se_lst (saS_cons rfl se_str (saS_cons rfl se_str (saS_cons rfl se_str (saS_cons rfl se_str (saS_cons rfl se_str (saS_cons rfl se_str saS_nil))))))) sa_nil)) rfl rfl rfl)) (se_cut (se_name (i := 4) rfl (by first | exact .inl rfl | exact .inr (.inl rfl) | exact .inr (.inr rfl)) rfl rfl) (so_some (se_name (i := 5) rfl (by first | exact .inl rfl | exact .inr (.inl rfl) | exact .inr (.inr rfl)) rfl rfl)) so_none)) (by first | rfl | exact swaps_no rfl _ _ _))))
 ss_nil)
 (ss_cons (ss_set (i := 6) hN rfl (by first | exact .inl rfl | exact .inr rfl) (by first | exact .inl rfl | exact .inr rfl) (by decide) (se_call c__law_lexemes tk hG (hr.mono (by decide)) rfl (sa_cons rfl (se_name (i := 4) rfl (by first | exact .inl rfl | exact .inr (.inl rfl) | exact .inr (.inr rfl)) rfl rfl) sa_nil) rfl rfl rfl) (by first | rfl | exact swaps_no rfl _ _ _))
 (ss_cons (ss_set (i := 6) hN rfl (by first | exact .inl rfl | exact .inr rfl) (by first | exact .inl rfl | exact .inr rfl) (by decide) (se_if (st_cmp hu65 rfl (se_idx rfl (se_idx rfl (se_name (i := 6) rfl (by first | exact .inl rfl | exact .inr (.inl rfl) | exact .inr (.inr rfl)) rfl rfl) (se_neg se_int)) se_int) se_str) (se_tup (saS_cons rfl se_str (saS_cons rfl (se_cut (se_name (i := 6) rfl (by first | exact .inl rfl | exact .inr (.inl rfl) | exact .inr (.inr rfl)) rfl rfl) so_none (so_some (se_neg se_int))) saS_nil))) (se_tup (saS_cons rfl se_str (saS_cons rfl (se_idx rfl (se_idx rfl (se_name (i := 6) rfl (by first | exact .inl rfl | exact .inr (.inl rfl) | exact .inr (.inr rfl)) rfl rfl) (se_neg se_int)) se_int) saS_nil)))) (by first | rfl | exact swaps_no rfl _ _ _))
 (ss_one (ss_if (st_cmp hu65 rfl (se_callB (br_repr hG hu66) rfl fx.f_repr rfl rfl (sa_cons rfl (se_call c__law_told_lexemes tk hG (hr.mono (by decide)) rfl (sa_cons rfl (se_name (i := 4) rfl (by first | exact .inl rfl | exact .inr (.inl rfl) | exact .inr (.inr rfl)) rfl rfl) sa_nil) rfl rfl rfl) sa_nil) (by decide) rfl rfl) (se_callB (br_repr hG hu66) rfl fx.f_repr rfl rfl (sa_cons rfl (se_name (i := 6) rfl (by first | exact .inl rfl | exact .inr (.inl rfl) | exact .inr (.inr rfl)) rfl rfl) sa_nil) (by decide) rfl rfl))
 (ss_one (ss_ret (np := 1) se_bool))
 ss_nil))))))) (fun _ => rfl))
 (ss_cons (ss_set (i := 7) hN rfl (by first | exact .inl rfl | exact .inr rfl) (by first | exact .inl rfl | exact .inr rfl) (by decide) (se_call c__law_of tk hG (hr.mono (by decide)) rfl (sa_cons rfl (se_name (i := 1) rfl (by first | exact .inl rfl | exact .inr (.inl rfl) | exact .inr (.inr rfl)) rfl rfl) (sa_cons rfl (se_lst (saS_cons rfl se_str (saS_cons rfl se_str (saS_cons rfl se_str (saS_cons rfl se_str (saS_cons rfl se_str saS_nil)))))) sa_nil)) rfl rfl rfl) (by first | rfl | exact swaps_no rfl _ _ _))
 (ss_cons (ss_set (i := 8) hN rfl (by first | exact .inl rfl | exact .inr rfl) (by first | exact .inl rfl | exact .inr rfl) (by decide) (se_lst (saS_cons rfl se_none (saS_cons rfl se_bool (saS_cons rfl se_int (saS_cons rfl (se_tup saS_nil) (saS_cons rfl (se_tup (saS_cons rfl se_str saS_nil)) (saS_cons rfl (se_lst (saS_cons rfl se_str (saS_cons rfl se_str saS_nil))) (saS_cons rfl se_str (saS_cons rfl se_str (saS_cons rfl se_str (saS_cons rfl se_str (saS_cons rfl se_str (saS_cons rfl se_str (saS_cons rfl se_str (saS_cons rfl se_str (saS_cons rfl se_str (saS_cons rfl se_str (saS_cons rfl se_str saS_nil)))))))))))))))))) (by first | rfl | exact swaps_no rfl _ _ _))
 (ss_cons (ss_for (by decide) (passes_of rfl) rfl (si_e (se_bin (se_name (i := 8) rfl (by first | exact .inl rfl | exact .inr (.inl rfl) | exact .inr (.inr rfl)) rfl rfl) (se_lst (saS_cons rfl (se_name (i := 7) rfl (by first | exact .inl rfl | exact .inr (.inl rfl) | exact .inr (.inr rfl)) rfl rfl) (saS_cons rfl (se_bin (se_name (i := 7) rfl (by first | exact .inl rfl | exact .inr (.inl rfl) | exact .inr (.inr rfl)) rfl rfl) (se_cut (se_name (i := 7) rfl (by first | exact .inl rfl | exact .inr (.inl rfl) | exact .inr (.inr rfl)) rfl rfl) so_none (so_some se_int))) (saS_cons rfl (se_rev (se_name (i := 7) rfl (by first | exact .inl rfl | exact .inr (.inl rfl) | exact .inr (.inr rfl)) rfl rfl)) (saS_cons rfl (se_call c__law_of tk hG (hr.mono (by decide)) rfl (sa_cons rfl (se_name (i := 1) rfl (by first | exact .inl rfl | exact .inr (.inl rfl) | exact .inr (.inr rfl)) rfl rfl) (sa_cons rfl (se_call0 c__law_kept tk hG (hr.mono (by decide)) rfl rfl) sa_nil)) rfl rfl rfl) saS_nil))))))) (sg_name (i := 9) hN rfl (by first | exact .inl rfl | exact .inr rfl) (by first | exact .inl rfl | exact .inr rfl))
 (ss_cons (ss_set (i := 10) hN rfl (by first | exact .inl rfl | exact .inr rfl) (by first | exact .inl rfl | exact .inr rfl) (by decide) (se_and (se_isi rfl fx.f_isinstance rfl (by decide) rfl rfl (se_name (i := 9) rfl (by first | exact .inl rfl | exact .inr (.inl rfl) | exact .inr (.inr rfl)) rfl rfl) rfl fx.f_str rfl (by decide) rfl (by decide)) (se_and (se_cmp hu65 rfl (se_name (i := 9) rfl (by first | exact .inl rfl | exact .inr (.inl rfl) | exact .inr (.inr rfl)) rfl rfl) se_str) (se_one (se_cmp hu65 rfl (se_callB br_len rfl fx.f_len rfl rfl (sa_cons rfl (se_name (i := 9) rfl (by first | exact .inl rfl | exact .inr (.inl rfl) | exact .inr (.inr rfl)) rfl rfl) sa_nil) (by decide) rfl rfl) se_int)))) (by first | rfl | exact swaps_no rfl _ _ _))
 (ss_cons (ss_set (i := 11) hN rfl (by first | exact .inl rfl | exact .inr rfl) (by first | exact .inl rfl | exact .inr rfl) (by decide) (se_and (se_name (i := 10) rfl (by first | exact .inl rfl | exact .inr (.inl rfl) | exact .inr (.inr rfl)) rfl rfl) (se_one (se_cmp hu65 rfl (se_comp (own := [("sign", 16)]) rfl hN (by decide) (by decide) (blkOk_by (by rfl)) (si_e (se_name (i := 9) rfl (by first | exact .inl rfl | exact .inr (.inl rfl) | exact .inr (.inr rfl)) rfl rfl)) (fun _ _ _ _ _ => (sg_name (i := 16) hN rfl (by first | exact .inl rfl | exact .inr rfl) (by first | exact .inl rfl | exact .inr rfl))) (fun _ _ _ _ _ => (sts_one (st_cmp hu65 rfl (se_name (i := 16) rfl (by first | exact .inl rfl | exact .inr (.inl rfl) | exact .inr (.inr rfl)) rfl rfl) se_str))) (fun _ _ _ _ _ => (se_name (i := 16) rfl (by first | exact .inl rfl | exact .inr (.inl rfl) | exact .inr (.inr rfl)) rfl rfl)) (fun _ => rfl)) (se_lst saS_nil)))) (by first | rfl | exact swaps_no rfl _ _ _))
 (ss_cons (ss_set (i := 11) hN rfl (by first | exact .inl rfl | exact .inr rfl) (by first | exact .inl rfl | exact .inr rfl) (by decide) (se_and (se_name (i := 11) rfl (by first | exact .inl rfl | exact .inr (.inl rfl) | exact .inr (.inr rfl)) rfl rfl) (se_one (se_cmp hu65 rfl (se_comp (own := [("one", 17), ("other", 18)]) rfl hN (by decide) (by decide) (blkOk_by (by rfl)) (si_zip rfl rfl fx.f_zip (sa_cons rfl (se_name (i := 9) rfl (by first | exact .inl rfl | exact .inr (.inl rfl) | exact .inr (.inr rfl)) rfl rfl) (sa_cons rfl (se_cut (se_name (i := 9) rfl (by first | exact .inl rfl | exact .inr (.inl rfl) | exact .inr (.inr rfl)) rfl rfl) (so_some se_int) so_none) sa_nil)) rfl rfl) (fun _ _ _ _ _ => (sg_tup rfl rfl rfl (sgs_cons rfl (sg_name (i := 17) hN rfl (by first | exact .inl rfl | exact .inr rfl) (by first | exact .inl rfl | exact .inr rfl)) (sgs_cons rfl (sg_name (i := 18) hN rfl (by first | exact .inl rfl | exact .inr rfl) (by first | exact .inl rfl | exact .inr rfl)) sgs_nil)))) (fun _ _ _ _ _ => (sts_one (st_cmp hu65 rfl (se_name (i := 17) rfl (by first | exact .inl rfl | exact .inr (.inl rfl) | exact .inr (.inr rfl)) rfl rfl) (se_name (i := 18) rfl (by first | exact .inl rfl | exact .inr (.inl rfl) | exact .inr (.inr rfl)) rfl rfl)))) (fun _ _ _ _ _ => se_int) (fun _ => rfl)) (se_lst saS_nil)))) (by first | rfl | exact swaps_no rfl _ _ _))
 (ss_cons (ss_if (st_cmp hu65 rfl (se_callB (br_repr hG hu66) rfl fx.f_repr rfl rfl (sa_cons rfl (se_call c_are_letters tk hG (hr.mono (by decide)) rfl (sa_cons rfl (se_name (i := 9) rfl (by first | exact .inl rfl | exact .inr (.inl rfl) | exact .inr (.inr rfl)) rfl rfl) sa_nil) rfl rfl rfl) sa_nil) (by decide) rfl rfl) (se_callB (br_repr hG hu66) rfl fx.f_repr rfl rfl (sa_cons rfl (se_name (i := 11) rfl (by first | exact .inl rfl | exact .inr (.inl rfl) | exact .inr (.inr rfl)) rfl rfl) sa_nil) (by decide) rfl rfl))
 (ss_one (ss_ret (np := 1) se_bool))
 ss_nil)
 (ss_cons (ss_set (i := 12) hN rfl (by first | exact .inl rfl | exact .inr rfl) (by first | exact .inl rfl | exact .inr rfl) (by decide) (se_and (se_isi rfl fx.f_isinstance rfl (by decide) rfl rfl (se_name (i := 9) rfl (by first | exact .inl rfl | exact .inr (.inl rfl) | exact .inr (.inr rfl)) rfl rfl) rfl fx.f_str rfl (by decide) rfl (by decide)) (se_one (se_cmp hu65 rfl (se_comp (own := [("sign", 16)]) rfl hN (by decide) (by decide) (blkOk_by (by rfl)) (si_e (se_name (i := 9) rfl (by first | exact .inl rfl | exact .inr (.inl rfl) | exact .inr (.inr rfl)) rfl rfl)) (fun _ _ _ _ _ => (sg_name (i := 16) hN rfl (by first | exact .inl rfl | exact .inr rfl) (by first | exact .inl rfl | exact .inr rfl))) (fun _ _ _ _ _ => (sts_one (st_cmp hu65 rfl (se_name (i := 16) rfl (by first | exact .inl rfl | exact .inr (.inl rfl) | exact .inr (.inr rfl)) rfl rfl) (se_callTy (br_listX rfl) rfl fx.f_list rfl rfl (sa_cons rfl (se_name (i := 7) rfl (by first | exact .inl rfl | exact .inr (.inl rfl) | exact .inr (.inr rfl)) rfl rfl) sa_nil) (by decide) rfl rfl)))) (fun _ _ _ _ _ => (se_name (i := 16) rfl (by first | exact .inl rfl | exact .inr (.inl rfl) | exact .inr (.inr rfl)) rfl rfl)) (fun _ => rfl)) (se_lst saS_nil)))) (by first | rfl | exact swaps_no rfl _ _ _))
 (ss_one (ss_if (st_cmp hu65 rfl (se_callB (br_repr hG hu66) rfl fx.f_repr rfl rfl (sa_cons rfl (se_call c_is_word_of tk hG (hr.mono (by decide)) rfl (sa_cons rfl (se_name (i := 7) rfl (by first | exact .inl rfl | exact .inr (.inl rfl) | exact .inr (.inr rfl)) rfl rfl) (sa_cons rfl (se_name (i := 9) rfl (by first | exact .inl rfl | exact .inr (.inl rfl) | exact .inr (.inr rfl)) rfl rfl) sa_nil)) rfl rfl rfl) sa_nil) (by decide) rfl rfl) (se_callB (br_repr hG hu66) rfl fx.f_repr rfl rfl (sa_cons rfl (se_name (i := 12) rfl (by first | exact .inl rfl | exact .inr (.inl rfl) | exact .inr (.inr rfl)) rfl rfl) sa_nil) (by decide) rfl rfl))
 (ss_one (ss_ret (np := 1) se_bool))
 ss_nil))))))) (fun _ => rfl))
 (ss_cons (ss_set (i := 13) hN rfl (by first | exact .inl rfl | exact .inr rfl) (by first | exact .inl rfl | exact .inr rfl) (by decide) (se_bin (se_bin (se_name (i := 8) rfl (by first | exact .inl rfl | exact .inr (.inl rfl) | exact .inr (.inr rfl)) rfl rfl) (se_call0 c__law_kept tk hG (hr.mono (by decide)) rfl rfl)) (se_lst (saS_cons rfl se_str (saS_cons rfl se_str (saS_cons rfl se_str (saS_cons rfl se_str (saS_cons rfl se_str (saS_cons rfl se_str (saS_cons rfl (se_bin se_str se_int) (saS_cons rfl (se_bin se_str se_int) (saS_cons rfl se_str (saS_cons rfl se_str (saS_cons rfl se_str (saS_cons rfl se_str (saS_cons rfl se_str saS_nil))))))))))))))) (by first | rfl | exact swaps_no rfl _ _ _))
 (ss_cons (ss_for (by decide) (passes_of rfl) rfl (si_e (se_bin (se_name (i := 13) rfl (by first | exact .inl rfl | exact .inr (.inl rfl) | exact .inr (.inr rfl)) rfl rfl) (se_lst (saS_cons rfl (se_name (i := 7) rfl (by first | exact .inl rfl | exact .inr (.inl rfl) | exact .inr (.inr rfl)) rfl rfl) (saS_cons rfl (se_cut (se_name (i := 7) rfl (by first | exact .inl rfl | exact .inr (.inl rfl) | exact .inr (.inr rfl)) rfl rfl) so_none (so_some se_int)) (saS_cons rfl (se_bin (se_cut (se_name (i := 7) rfl (by first | exact .inl rfl | exact .inr (.inl rfl) | exact .inr (.inr rfl)) rfl rfl) so_none (so_some se_int)) se_str) saS_nil)))))) (sg_name (i := 9) hN rfl (by first | exact .inl rfl | exact .inr rfl) (by first | exact .inl rfl | exact .inr rfl))
 (ss_cons (by first | exact ss_par2 (i := 6) (j := 14) (by decide) rfl hN rfl rfl (by decide) rfl rfl (sa_cons rfl (se_call c__law_is_name tk hG (hr.mono (by decide)) rfl (sa_cons rfl (se_name (i := 7) rfl (by first | exact .inl rfl | exact .inr (.inl rfl) | exact .inr (.inr rfl)) rfl rfl) (sa_cons rfl (se_name (i := 9) rfl (by first | exact .inl rfl | exact .inr (.inl rfl) | exact .inr (.inr rfl)) rfl rfl) sa_nil)) rfl rfl rfl) (sa_cons rfl se_str sa_nil)) rfl rfl | exact ss_parN (by decide) rfl rfl rfl (by rw [sizeLine_eq]; decide) (sa_cons rfl (se_call c__law_is_name tk hG (hr.mono (by decide)) rfl (sa_cons rfl (se_name (i := 7) rfl (by first | exact .inl rfl | exact .inr (.inl rfl) | exact .inr (.inr rfl)) rfl rfl) (sa_cons rfl (se_name (i := 9) rfl (by first | exact .inl rfl | exact .inr (.inl rfl) | exact .inr (.inr rfl)) rfl rfl) sa_nil)) rfl rfl rfl) (sa_cons rfl se_str sa_nil)) (pgs_consN (i := 6) hN rfl (by first | exact .inl rfl | exact .inr rfl) (by first | exact .inl rfl | exact .inr rfl) (pgs_consN (i := 14) hN rfl (by first | exact .inl rfl | exact .inr rfl) (by first | exact .inl rfl | exact .inr rfl) pgs_nilN (is := []))) rfl rfl)
 (ss_cons (ss_set (i := 15) hN rfl (by first | exact .inl rfl | exact .inr rfl) (by first | exact .inl rfl | exact .inr rfl) (by decide) (se_lst (saS_cons rfl (se_call c_is_name tk hG (hr.mono (by decide)) rfl (sa_cons rfl (se_name (i := 7) rfl (by first | exact .inl rfl | exact .inr (.inl rfl) | exact .inr (.inr rfl)) rfl rfl) (sa_cons rfl (se_name (i := 9) rfl (by first | exact .inl rfl | exact .inr (.inl rfl) | exact .inr (.inr rfl)) rfl rfl) sa_nil)) rfl rfl rfl) (saS_cons rfl (se_call c_is_small_name tk hG (hr.mono (by decide)) rfl (sa_cons rfl (se_name (i := 7) rfl (by first | exact .inl rfl | exact .inr (.inl rfl) | exact .inr (.inr rfl)) rfl rfl) (sa_cons rfl (se_name (i := 9) rfl (by first | exact .inl rfl | exact .inr (.inl rfl) | exact .inr (.inr rfl)) rfl rfl) sa_nil)) rfl rfl rfl) (saS_cons rfl (se_call c_is_big_name tk hG (hr.mono (by decide)) rfl (sa_cons rfl (se_name (i := 7) rfl (by first | exact .inl rfl | exact .inr (.inl rfl) | exact .inr (.inr rfl)) rfl rfl) (sa_cons rfl (se_name (i := 9) rfl (by first | exact .inl rfl | exact .inr (.inl rfl) | exact .inr (.inr rfl)) rfl rfl) sa_nil)) rfl rfl rfl) saS_nil)))) (by first | rfl | exact swaps_no rfl _ _ _))
 (ss_one (ss_if (st_cmp hu65 rfl (se_callB (br_repr hG hu66) rfl fx.f_repr rfl rfl (sa_cons rfl (se_name (i := 15) rfl (by first | exact .inl rfl | exact .inr (.inl rfl) | exact .inr (.inr rfl)) rfl rfl) sa_nil) (by decide) rfl rfl) (se_callB (br_repr hG hu66) rfl fx.f_repr rfl rfl (sa_cons rfl (se_lst (saS_cons rfl (se_name (i := 6) rfl (by first | exact .inl rfl | exact .inr (.inl rfl) | exact .inr (.inr rfl)) rfl rfl) (saS_cons rfl (se_and (se_name (i := 6) rfl (by first | exact .inl rfl | exact .inr (.inl rfl) | exact .inr (.inr rfl)) rfl rfl) (se_one (se_cmp hu65 rfl (se_idx rfl (se_name (i := 9) rfl (by first | exact .inl rfl | exact .inr (.inl rfl) | exact .inr (.inr rfl)) rfl rfl) se_int) (se_name (i := 14) rfl (by first | exact .inl rfl | exact .inr (.inl rfl) | exact .inr (.inr rfl)) rfl rfl)))) (saS_cons rfl (se_and (se_name (i := 6) rfl (by first | exact .inl rfl | exact .inr (.inl rfl) | exact .inr (.inr rfl)) rfl rfl) (se_one (se_cmp hu65 rfl (se_idx rfl (se_name (i := 9) rfl (by first | exact .inl rfl | exact .inr (.inl rfl) | exact .inr (.inr rfl)) rfl rfl) se_int) (se_name (i := 14) rfl (by first | exact .inl rfl | exact .inr (.inl rfl) | exact .inr (.inr rfl)) rfl rfl)))) saS_nil)))) sa_nil) (by decide) rfl rfl))
 (ss_one (ss_ret (np := 1) se_bool))
 ss_nil)))) (fun _ => rfl))
 (ss_one (ss_ret (np := 1) (se_cmp hu65 rfl (se_idx rfl (se_call c_lexemes tk hG (hr.mono (by decide)) rfl (sa_cons rfl se_str sa_nil) rfl rfl rfl) se_int) (se_tup (saS_cons rfl se_str (saS_cons rfl se_str (saS_cons rfl se_int saS_nil))))))))))))))

end
end Lw

namespace Lw
open PySem L2 Ev

theorem run_end_ok {z S : Str} (h : Fair z) {p : Nat} (hp : p ≤ z.cps.toList.length) : F_run_end [.dat (.str z), .dat (.int p), .dat (.str S)] = .ret (.dat (.int (scan S.cps.toList z.cps.toList p : Nat))) [.dat (.str z), .dat (.int p), .dat (.str S)] := by
  refine fnOf_rt rfl rfl (δ' := [some (.dat (.str z)), some (.dat (.int (scan S.cps.toList z.cps.toList p : Nat))), some (.dat (.str S))]) ?_ rfl
  refine (sSeq_nx (while_scan (S := S.cps.toList) (cs := z.cps.toList) (fun p => [some (.dat (.str z)), some (.dat (.int (p : Nat))), some (.dat (.str S))]) ?_ ?_ _ p rfl hp)).trans ?_
  · intro p hp
    by_cases q : p < z.cps.toList.length
    · have hx := idx_at h (List.getElem?_eq_getElem q)
      have hq : ((p : Int) < (z.cps.toList.length : Nat)) := by omega
      simp only [Ev.tAnd, Ev.tOr, Ev.tNot, Ev.tOf, Ev.eOp, Ev.evs, Ev.bnd, Ev.eSlot, Ev.at?, Ev.ret, Ev.eDat, Ev.opN, Ev.datas, Ev.Opd.data, Ev.SV.data, Ev.gB2, Ev.g1, Ev.g2, Ev.gCmp, Ev.truth, Ev.truthy, List.getElem?_cons_zero, List.getElem?_cons_succ, Option.join_some, Option.bind_some, Option.map_some, Ev.in_one, len_of h, hx, decide_eq_true hq, if_true]
      simp only [inS, List.getElem?_eq_getElem q]
    · have hq : ¬ ((p : Int) < (z.cps.toList.length : Nat)) := by omega
      simp only [Ev.tAnd, Ev.tOr, Ev.tNot, Ev.tOf, Ev.eOp, Ev.evs, Ev.bnd, Ev.eSlot, Ev.at?, Ev.ret, Ev.eDat, Ev.opN, Ev.datas, Ev.Opd.data, Ev.SV.data, Ev.gB2, Ev.g1, Ev.g2, Ev.gCmp, Ev.truth, Ev.truthy, List.getElem?_cons_zero, List.getElem?_cons_succ, Option.join_some, Option.bind_some, Option.map_some, Ev.in_one, len_of h, decide_eq_false hq]
      simp only [inS, List.getElem?_eq_none (Nat.le_of_not_lt q)]
      rfl
  · intro p hp
    rfl
  · rfl
end Lw

namespace Lw
noncomputable section
open PySem L2 Ev

def aS : Str := "abcdefghijklmnopqrstuvwxyz"
def bS : Str := "ABCDEFGHIJKLMNOPQRSTUVWXYZ"
def fS : Str := "0123456789"
def gS : Str := "(),:;"
def kS : Str := " \n"
def isG (c : Nat) : Bool := gS.cps.toList.contains c
def isF (c : Nat) : Bool := fS.cps.toList.contains c
def isL (c : Nat) : Bool := (aS ++ bS).cps.toList.contains c
def isK (c : Nat) : Bool := kS.cps.toList.contains c
def runF (z : Str) (p : Nat) : Nat := scan fS.cps.toList z.cps.toList p
def runW (z : Str) (p : Nat) : Nat := scan ((aS ++ bS) ++ fS).cps.toList z.cps.toList p
def runK (z : Str) (p : Nat) : Nat := scan kS.cps.toList z.cps.toList p
def tk (k t : Str) (p : Nat) : PyData := .tuple [.str k, .str t, .int p]
def lexD (z : Str) (P : Nat) : PyData := match z.cps.toList[P]? with
  | none => tk "end" "" P
  | some c => if isG c then tk "sign" ⟨#[c]⟩ P else if c = 48 then tk "numeral" "0" P else if isF c then tk "numeral" (cutN z P (runF z P)) P else if isL c then tk "word" (cutN z P (runW z P)) P else tk "wrong" "" P
theorem zero_is : ("0" : Str) = ⟨#[48]⟩ := by decide +kernel
theorem ab_cat : gAdd (.str "abcdefghijklmnopqrstuvwxyz") (.str "ABCDEFGHIJKLMNOPQRSTUVWXYZ") = some (.dat (.str (aS ++ bS))) := cat_small (by decide +kernel)
theorem abf_cat : gAdd (.str (aS ++ bS)) (.str "0123456789") = some (.dat (.str ((aS ++ bS) ++ fS))) := cat_small (by decide +kernel)
theorem lexeme_at_ok {z : Str} (h : Fair z) {p : Nat} (hp : p ≤ z.cps.toList.length) : F_lexeme_at [.dat (.str z), .dat (.int p)] = .ret (.dat (lexD z (runK z p))) [.dat (.str z), .dat (.int p)] := by
  have hP : runK z p ≤ z.cps.toList.length := (scan_le hp).2
  generalize hPe : runK z p = P at *
  refine fnOf_rt rfl rfl (δ' := [some (.dat (.str z)), some (.dat (.int (P : Nat)))]) ?_ rfl
  refine (sSeq_nx (sSet_ok (v := .dat (.int (P : Nat))) (δ1 := [some (.dat (.str z)), some (.dat (.int (p : Nat)))]) (eCall_ok (ds := [.str z, .int p, .str kS]) rfl (by rw [← hPe]; exact run_end_ok h hp)) rfl)).trans ?_
  show sSeq _ _ [some (.dat (.str z)), some (.dat (.int (P : Nat)))] = _
  by_cases q : P < z.cps.toList.length
  · obtain ⟨c, hc⟩ : ∃ c, z.cps.toList[P]? = some c := ⟨_, List.getElem?_eq_getElem q⟩
    have hx := idx_at h hc
    have hlt : c < 0x110000 := h.ok c (List.mem_of_getElem? hc)
    have t1 : (tOf (eOp (gB2 (gCmp .Eq)) [(eSlot 1), (eOp (g1 gLen) [(eSlot 0)])])) [some (.dat (.str z)), some (.dat (.int (P : Nat)))] = .ok false [some (.dat (.str z)), some (.dat (.int (P : Nat)))] := by
      simp only [Ev.tAnd, Ev.tOr, Ev.tNot, Ev.tOf, Ev.eOp, Ev.evs, Ev.bnd, Ev.eSlot, Ev.at?, Ev.ret, Ev.eDat, Ev.opN, Ev.datas, Ev.Opd.data, Ev.SV.data, Ev.gB2, Ev.g1, Ev.g2, Ev.gCmp, Ev.truth, Ev.truthy, List.getElem?_cons_zero, List.getElem?_cons_succ, Option.join_some, Option.bind_some, Option.map_some, Ev.in_one, len_of h, eq_int]
      rw [decide_eq_false (by omega)]
    have t2 : (tOf (eOp (gB2 (gCmp .In)) [(eOp (g2 gIdx) [(eSlot 0), (eSlot 1)]), (eDat (.str "(),:;"))])) [some (.dat (.str z)), some (.dat (.int (P : Nat)))] = .ok (isG c) [some (.dat (.str z)), some (.dat (.int (P : Nat)))] := by
      simp only [Ev.tAnd, Ev.tOr, Ev.tNot, Ev.tOf, Ev.eOp, Ev.evs, Ev.bnd, Ev.eSlot, Ev.at?, Ev.ret, Ev.eDat, Ev.opN, Ev.datas, Ev.Opd.data, Ev.SV.data, Ev.gB2, Ev.g1, Ev.g2, Ev.gCmp, Ev.truth, Ev.truthy, List.getElem?_cons_zero, List.getElem?_cons_succ, Option.join_some, Option.bind_some, Option.map_some, Ev.in_one, hx]
      rfl
    have t3 : (tOf (eOp (gB2 (gCmp .Eq)) [(eOp (g2 gIdx) [(eSlot 0), (eSlot 1)]), (eDat (.str "0"))])) [some (.dat (.str z)), some (.dat (.int (P : Nat)))] = .ok (decide (c = 48)) [some (.dat (.str z)), some (.dat (.int (P : Nat)))] := by
      simp only [Ev.tAnd, Ev.tOr, Ev.tNot, Ev.tOf, Ev.eOp, Ev.evs, Ev.bnd, Ev.eSlot, Ev.at?, Ev.ret, Ev.eDat, Ev.opN, Ev.datas, Ev.Opd.data, Ev.SV.data, Ev.gB2, Ev.g1, Ev.g2, Ev.gCmp, Ev.truth, Ev.truthy, List.getElem?_cons_zero, List.getElem?_cons_succ, Option.join_some, Option.bind_some, Option.map_some, Ev.in_one, hx, zero_is, eq_one hlt (show 48 < 0x110000 by decide)]
    have t4 : (tOf (eOp (gB2 (gCmp .In)) [(eOp (g2 gIdx) [(eSlot 0), (eSlot 1)]), (eDat (.str "0123456789"))])) [some (.dat (.str z)), some (.dat (.int (P : Nat)))] = .ok (isF c) [some (.dat (.str z)), some (.dat (.int (P : Nat)))] := by
      simp only [Ev.tAnd, Ev.tOr, Ev.tNot, Ev.tOf, Ev.eOp, Ev.evs, Ev.bnd, Ev.eSlot, Ev.at?, Ev.ret, Ev.eDat, Ev.opN, Ev.datas, Ev.Opd.data, Ev.SV.data, Ev.gB2, Ev.g1, Ev.g2, Ev.gCmp, Ev.truth, Ev.truthy, List.getElem?_cons_zero, List.getElem?_cons_succ, Option.join_some, Option.bind_some, Option.map_some, Ev.in_one, hx]
      rfl
    have t5 : (tOf (eOp (gB2 (gCmp .In)) [(eOp (g2 gIdx) [(eSlot 0), (eSlot 1)]), (eOp (g2 (gBin .Add)) [(eDat (.str "abcdefghijklmnopqrstuvwxyz")), (eDat (.str "ABCDEFGHIJKLMNOPQRSTUVWXYZ"))])])) [some (.dat (.str z)), some (.dat (.int (P : Nat)))] = .ok (isL c) [some (.dat (.str z)), some (.dat (.int (P : Nat)))] := by
      simp only [Ev.tAnd, Ev.tOr, Ev.tNot, Ev.tOf, Ev.eOp, Ev.evs, Ev.bnd, Ev.eSlot, Ev.at?, Ev.ret, Ev.eDat, Ev.opN, Ev.datas, Ev.Opd.data, Ev.SV.data, Ev.gB2, Ev.g1, Ev.g2, Ev.gCmp, Ev.truth, Ev.truthy, List.getElem?_cons_zero, List.getElem?_cons_succ, Option.join_some, Option.bind_some, Option.map_some, Ev.in_one, hx, gBin, ab_cat]
      rfl
    refine (sSeq_nx (mIf_f t1)).trans ?_
    have hD : lexD z P = if isG c then tk "sign" ⟨#[c]⟩ P else if c = 48 then tk "numeral" "0" P else if isF c then tk "numeral" (cutN z P (runF z P)) P else if isL c then tk "word" (cutN z P (runW z P)) P else tk "wrong" "" P := by
      unfold lexD
      rw [hc]
    have ex : eOp (g2 gIdx) [(eSlot 0), (eSlot 1)] [some (.dat (.str z)), some (.dat (.int (P : Nat)))] = .ok (.val (.dat (.str ⟨#[c]⟩))) [some (.dat (.str z)), some (.dat (.int (P : Nat)))] := eOp2 rfl rfl rfl rfl hx
    cases b1 : isG c with
    | true =>
      rw [b1] at t2 hD
      rw [if_pos rfl] at hD
      refine (sSeq_rt ((mIf_t t2).trans (sRet_ok (eTup3 (by rfl) ex (by rfl))))).trans ?_
      rw [hD]; rfl
    | false =>
    rw [b1] at t2 hD
    rw [if_neg (by decide)] at hD
    refine (sSeq_nx (mIf_f t2)).trans ?_
    by_cases b2 : c = 48
    · rw [decide_eq_true b2] at t3
      refine (sSeq_rt ((mIf_t t3).trans (sRet_ok (eTup3 (by rfl) (by rfl) (by rfl))))).trans ?_
      rw [hD, if_pos b2]; rfl
    rw [decide_eq_false b2] at t3
    refine (sSeq_nx (mIf_f t3)).trans ?_
    rw [if_neg b2] at hD
    cases b3 : isF c with
    | true =>
      rw [b3] at t4 hD
      rw [if_pos rfl] at hD
      refine (sSeq_rt ((mIf_t t4).trans (sRet_ok (eTup3 (by rfl) (eCut_ok (by rfl) (by rfl) (eCall_ok (ds := [.str z, .int P, .str fS]) (by rfl) (run_end_ok h hP)) (cut_at h (scan_le hP).1 (scan_le hP).2)) (by rfl))))).trans ?_
      rw [hD]; rfl
    | false =>
    rw [b3] at t4 hD
    rw [if_neg (by decide)] at hD
    refine (sSeq_nx (mIf_f t4)).trans ?_
    cases b4 : isL c with
    | true =>
      rw [b4] at t5 hD
      rw [if_pos rfl] at hD
      have e2 : evs [(eSlot 0), (eSlot 1), (eOp (g2 (gBin .Add)) [(eOp (g2 (gBin .Add)) [(eDat (.str "abcdefghijklmnopqrstuvwxyz")), (eDat (.str "ABCDEFGHIJKLMNOPQRSTUVWXYZ"))]), (eDat (.str "0123456789"))])] [some (.dat (.str z)), some (.dat (.int (P : Nat)))] = .ok (vals [.str z, .int P, .str ((aS ++ bS) ++ fS)]) [some (.dat (.str z)), some (.dat (.int (P : Nat)))] := by
        simp only [Ev.tAnd, Ev.tOr, Ev.tNot, Ev.tOf, Ev.eOp, Ev.evs, Ev.bnd, Ev.eSlot, Ev.at?, Ev.ret, Ev.eDat, Ev.opN, Ev.datas, Ev.Opd.data, Ev.SV.data, Ev.gB2, Ev.g1, Ev.g2, Ev.gCmp, Ev.truth, Ev.truthy, List.getElem?_cons_zero, List.getElem?_cons_succ, Option.join_some, Option.bind_some, Option.map_some, Ev.in_one, gBin, ab_cat, abf_cat]
        rfl
      refine (sSeq_rt ((mIf_t t5).trans (sRet_ok (eTup3 (by rfl) (eCut_ok (by rfl) (by rfl) (eCall_ok e2 (run_end_ok h hP)) (cut_at h (scan_le hP).1 (scan_le hP).2)) (by rfl))))).trans ?_
      rw [hD]; rfl
    | false =>
    rw [b4] at t5 hD
    rw [if_neg (by decide)] at hD
    refine (sSeq_nx (mIf_f t5)).trans ?_
    refine (sRet_ok (eTup3 (by rfl) (by rfl) (by rfl))).trans ?_
    rw [hD]; rfl
  · have e : P = z.cps.toList.length := by omega
    have t1 : (tOf (eOp (gB2 (gCmp .Eq)) [(eSlot 1), (eOp (g1 gLen) [(eSlot 0)])])) [some (.dat (.str z)), some (.dat (.int (P : Nat)))] = .ok true [some (.dat (.str z)), some (.dat (.int (P : Nat)))] := by
      simp only [Ev.tAnd, Ev.tOr, Ev.tNot, Ev.tOf, Ev.eOp, Ev.evs, Ev.bnd, Ev.eSlot, Ev.at?, Ev.ret, Ev.eDat, Ev.opN, Ev.datas, Ev.Opd.data, Ev.SV.data, Ev.gB2, Ev.g1, Ev.g2, Ev.gCmp, Ev.truth, Ev.truthy, List.getElem?_cons_zero, List.getElem?_cons_succ, Option.join_some, Option.bind_some, Option.map_some, Ev.in_one, len_of h, eq_int]
      rw [decide_eq_true (by omega)]
    refine (sSeq_rt ((mIf_t t1).trans (sRet_ok (eTup3 (by rfl) (by rfl) (by rfl))))).trans ?_
    have hD : lexD z P = tk "end" "" P := by
      unfold lexD
      rw [List.getElem?_eq_none (by omega)]
    rw [hD]; rfl
end
end Lw

namespace Lw
noncomputable section
open PySem L2 Ev

inductive Lx (z : Str) : Nat → List PyData → Bool → Nat → Prop where
  | fin : Lx z z.cps.toList.length [] true z.cps.toList.length
  | bad {p c : Nat} : z.cps.toList[p]? = some c → isK c = false → isG c = false → c ≠ 48 → isF c = false → isL c = false → Lx z p [] false p
  | blank {p c q : Nat} {r : List PyData} {b : Bool} : z.cps.toList[p]? = some c → isK c = true → Lx z (p + 1) r b q → Lx z p r b q
  | sign {p c q : Nat} {r : List PyData} {b : Bool} : z.cps.toList[p]? = some c → isK c = false → isG c = true → Lx z (p + 1) r b q → Lx z p (tk "sign" ⟨#[c]⟩ p :: r) b q
  | zero {p q : Nat} {r : List PyData} {b : Bool} : z.cps.toList[p]? = some 48 → Lx z (p + 1) r b q → Lx z p (tk "numeral" "0" p :: r) b q
  | num {p c q : Nat} {r : List PyData} {b : Bool} : z.cps.toList[p]? = some c → isK c = false → isG c = false → c ≠ 48 → isF c = true → Lx z (runF z (p + 1)) r b q → Lx z p (tk "numeral" (cutN z p (runF z (p + 1))) p :: r) b q
  | word {p c q : Nat} {r : List PyData} {b : Bool} : z.cps.toList[p]? = some c → isK c = false → isG c = false → c ≠ 48 → isF c = false → isL c = true → Lx z (runW z (p + 1)) r b q → Lx z p (tk "word" (cutN z p (runW z (p + 1))) p :: r) b q
theorem lx_ex (z : Str) : ∀ (n p : Nat), z.cps.toList.length - p = n → p ≤ z.cps.toList.length → ∃ r b q, Lx z p r b q ∧ r.length ≤ n := by
  intro n
  induction n using Nat.strongRecOn with
  | _ n ih =>
    intro p hn hp
    by_cases hq : p < z.cps.toList.length
    · obtain ⟨c, hc⟩ : ∃ c, z.cps.toList[p]? = some c := ⟨_, List.getElem?_eq_getElem hq⟩
      have go : ∀ p', p < p' → p' ≤ z.cps.toList.length → ∃ r b q, Lx z p' r b q ∧ r.length < n := fun p' h1 h2 => by
        obtain ⟨r, b, q, hl, hr⟩ := ih (z.cps.toList.length - p') (by omega) p' rfl h2
        exact ⟨r, b, q, hl, by omega⟩
      have hF := scan_le (S := fS.cps.toList) (cs := z.cps.toList) (p := p + 1) (by omega)
      have hW := scan_le (S := ((aS ++ bS) ++ fS).cps.toList) (cs := z.cps.toList) (p := p + 1) (by omega)
      by_cases e48 : c = 48
      · subst e48
        obtain ⟨r, b, q, h, hl⟩ := go (p + 1) (by omega) (by omega)
        exact ⟨_, _, _, .zero hc h, by simp; omega⟩
      cases b1 : isK c with
      | true =>
        obtain ⟨r, b, q, h, hl⟩ := go (p + 1) (by omega) (by omega)
        exact ⟨_, _, _, .blank hc b1 h, by omega⟩
      | false =>
      cases b2 : isG c with
      | true =>
        obtain ⟨r, b, q, h, hl⟩ := go (p + 1) (by omega) (by omega)
        exact ⟨_, _, _, .sign hc b1 b2 h, by simp; omega⟩
      | false =>
      cases b3 : isF c with
      | true =>
        obtain ⟨r, b, q, h, hl⟩ := go (runF z (p + 1)) (by unfold runF; omega) (by unfold runF; omega)
        exact ⟨_, _, _, .num hc b1 b2 e48 b3 h, by simp; omega⟩
      | false =>
      cases b4 : isL c with
      | true =>
        obtain ⟨r, b, q, h, hl⟩ := go (runW z (p + 1)) (by unfold runW; omega) (by unfold runW; omega)
        exact ⟨_, _, _, .word hc b1 b2 e48 b3 b4 h, by simp; omega⟩
      | false => exact ⟨_, _, _, .bad hc b1 b2 e48 b3 b4, by simp⟩
    · have : p = z.cps.toList.length := by omega
      subst this
      exact ⟨_, _, _, .fin, by simp⟩
def tA : M Bool := (tOf (eOp (gB2 (gCmp .NotEq)) [(eOp (g2 gIdx) [(eSlot 2), (eDat (.int 0))]), (eDat (.str "end"))]))
def bA : M Flw := (sSeq (mIf (tOf (eOp (gB2 (gCmp .Eq)) [(eOp (g2 gIdx) [(eSlot 2), (eDat (.int 0))]), (eDat (.str "wrong"))]))
 (sRaise "BadText" "place" (eOp (g2 gIdx) [(eSlot 2), (eDat (.int 2))]))
 (Ev.ret .nx))
 (sSeq (sDo (eAppd 1 (eSlot 2)))
 (sSet (gName 2) (eCall F_lexeme_at (evs [(eSlot 0), (eOp (g2 (gBin .Add)) [(eOp (g2 gIdx) [(eSlot 2), (eDat (.int 2))]), (eOp (g1 gLen) [(eOp (g2 gIdx) [(eSlot 2), (eDat (.int 1))])])])])))))
def sA (z : Str) (acc : List PyData) (d : PyData) : DS := [some (.dat (.str z)), some (.lst acc), some (.dat d)]
theorem tA_ok {z k t : Str} {acc : List PyData} {p : Nat} {x : Bool} (h : eq? (.str k) (.str "end") = some x) : tA (sA z acc (tk k t p)) = .ok (!x) (sA z acc (tk k t p)) := by
  have e : gIdx (tk k t p) (.int 0) = some (.dat (.str k)) := rfl
  simp only [tA, sA, Ev.tAnd, Ev.tOr, Ev.tNot, Ev.tOf, Ev.eOp, Ev.evs, Ev.bnd, Ev.eSlot, Ev.at?, Ev.ret, Ev.eDat, Ev.opN, Ev.datas, Ev.Opd.data, Ev.SV.data, Ev.gB2, Ev.g1, Ev.g2, Ev.gCmp, Ev.truth, Ev.truthy, List.getElem?_cons_zero, List.getElem?_cons_succ, Option.join_some, Option.bind_some, Option.map_some, Ev.in_one, e, h]
theorem eAppd_ok {i : Nat} {m : M Opd} {δ : DS} {ds : List PyData} {d : PyData} (h : m δ = .ok (.val (.dat d)) δ) (h0 : at? δ i = some (.lst ds)) (hl : ds.length < sizeLine) : eAppd i m δ = .ok (.val (.dat .none)) (δ.set i (some (.lst (ds ++ [d])))) := by
  simp [eAppd, h0, bnd, h, takeD, take, Ev.ret, SV.data, hl]
theorem bA_tok {z k t : Str} {acc : List PyData} {p : Nat} (h : Fair z) (ht : Fair t) (hk : eq? (.str k) (.str "wrong") = some false) (hp : p + t.cps.toList.length ≤ z.cps.toList.length) (hl : acc.length < 2000) :
    bA (sA z acc (tk k t p)) = .ok .nx (sA z (acc ++ [tk k t p]) (lexD z (runK z (p + t.cps.toList.length)))) := by
  have e0 : gIdx (tk k t p) (.int 0) = some (.dat (.str k)) := rfl
  have e1 : gIdx (tk k t p) (.int 1) = some (.dat (.str t)) := rfl
  have e2 : gIdx (tk k t p) (.int 2) = some (.dat (.int p)) := rfl
  have t1 : (tOf (eOp (gB2 (gCmp .Eq)) [(eOp (g2 gIdx) [(eSlot 2), (eDat (.int 0))]), (eDat (.str "wrong"))])) (sA z acc (tk k t p)) = .ok false (sA z acc (tk k t p)) := by
    simp only [sA, Ev.tAnd, Ev.tOr, Ev.tNot, Ev.tOf, Ev.eOp, Ev.evs, Ev.bnd, Ev.eSlot, Ev.at?, Ev.ret, Ev.eDat, Ev.opN, Ev.datas, Ev.Opd.data, Ev.SV.data, Ev.gB2, Ev.g1, Ev.g2, Ev.gCmp, Ev.truth, Ev.truthy, List.getElem?_cons_zero, List.getElem?_cons_succ, Option.join_some, Option.bind_some, Option.map_some, Ev.in_one, e0, hk]
  unfold bA
  refine (sSeq_nx (mIf_f t1)).trans ?_
  have a1 : sDo (eAppd 1 (eSlot 2)) (sA z acc (tk k t p)) = .ok .nx (sA z (acc ++ [tk k t p]) (tk k t p)) := by
    have := eAppd_ok (i := 1) (m := eSlot 2) (δ := sA z acc (tk k t p)) (ds := acc) (d := tk k t p) rfl rfl (by rw [sizeLine_eq]; omega)
    unfold sDo
    rw [bnd_ok this]; rfl
  refine (sSeq_nx a1).trans ?_
  have a2 : evs [(eSlot 0), (eOp (g2 (gBin .Add)) [(eOp (g2 gIdx) [(eSlot 2), (eDat (.int 2))]), (eOp (g1 gLen) [(eOp (g2 gIdx) [(eSlot 2), (eDat (.int 1))])])])] (sA z (acc ++ [tk k t p]) (tk k t p)) = .ok (vals [.str z, .int (p + t.cps.toList.length : Nat)]) (sA z (acc ++ [tk k t p]) (tk k t p)) := by
    simp only [sA, Ev.tAnd, Ev.tOr, Ev.tNot, Ev.tOf, Ev.eOp, Ev.evs, Ev.bnd, Ev.eSlot, Ev.at?, Ev.ret, Ev.eDat, Ev.opN, Ev.datas, Ev.Opd.data, Ev.SV.data, Ev.gB2, Ev.g1, Ev.g2, Ev.gCmp, Ev.truth, Ev.truthy, List.getElem?_cons_zero, List.getElem?_cons_succ, Option.join_some, Option.bind_some, Option.map_some, Ev.in_one, e1, e2, len_of ht, gBin, gAdd]
    rfl
  exact sSet_ok (eCall_ok a2 (lexeme_at_ok h hp)) rfl
theorem bA_bad {z t : Str} {acc : List PyData} {p : Nat} : bA (sA z acc (tk "wrong" t p)) = .exn ⟨"BadText", [("place", .int p)]⟩ (sA z acc (tk "wrong" t p)) := by
  have e0 : gIdx (tk "wrong" t p) (.int 0) = some (.dat (.str "wrong")) := rfl
  have e2 : gIdx (tk "wrong" t p) (.int 2) = some (.dat (.int p)) := rfl
  have hk : eq? (.str "wrong") (.str "wrong") = some true := by decide +kernel
  have t1 : (tOf (eOp (gB2 (gCmp .Eq)) [(eOp (g2 gIdx) [(eSlot 2), (eDat (.int 0))]), (eDat (.str "wrong"))])) (sA z acc (tk "wrong" t p)) = .ok true (sA z acc (tk "wrong" t p)) := by
    simp only [sA, Ev.tAnd, Ev.tOr, Ev.tNot, Ev.tOf, Ev.eOp, Ev.evs, Ev.bnd, Ev.eSlot, Ev.at?, Ev.ret, Ev.eDat, Ev.opN, Ev.datas, Ev.Opd.data, Ev.SV.data, Ev.gB2, Ev.g1, Ev.g2, Ev.gCmp, Ev.truth, Ev.truthy, List.getElem?_cons_zero, List.getElem?_cons_succ, Option.join_some, Option.bind_some, Option.map_some, Ev.in_one, e0, hk]
  unfold bA
  refine sSeq_exn ((mIf_t t1).trans ?_)
  simp only [sRaise, sA, Ev.tAnd, Ev.tOr, Ev.tNot, Ev.tOf, Ev.eOp, Ev.evs, Ev.bnd, Ev.eSlot, Ev.at?, Ev.ret, Ev.eDat, Ev.opN, Ev.datas, Ev.Opd.data, Ev.SV.data, Ev.gB2, Ev.g1, Ev.g2, Ev.gCmp, Ev.truth, Ev.truthy, List.getElem?_cons_zero, List.getElem?_cons_succ, Option.join_some, Option.bind_some, Option.map_some, Ev.in_one, e2, takeD, take]
def outA (z : Str) (r : R Flw) (l : List PyData) (b : Bool) (q : Nat) : Prop := ∃ X : PyData, if b = true then r = .ok .nx (sA z l X) else ∃ l', r = .exn ⟨"BadText", [("place", .int q)]⟩ (sA z l' X)
theorem loopA {z : Str} (h : Fair z) {p q : Nat} {r : List PyData} {b : Bool} (lx : Lx z p r b q) : p ≤ z.cps.toList.length → ∀ acc : List PyData, acc.length + r.length < 2000 → outA z (mWhile tA bA (sA z acc (lexD z (runK z p)))) (acc ++ r) b q := by
  have k1 : eq? (.str "sign") (.str "end") = some false := by decide +kernel
  have k2 : eq? (.str "numeral") (.str "end") = some false := by decide +kernel
  have k3 : eq? (.str "word") (.str "end") = some false := by decide +kernel
  have k4 : eq? (.str "wrong") (.str "end") = some false := by decide +kernel
  have k5 : eq? (.str "end") (.str "end") = some true := by decide +kernel
  have w1 : eq? (.str "sign") (.str "wrong") = some false := by decide +kernel
  have w2 : eq? (.str "numeral") (.str "wrong") = some false := by decide +kernel
  have w3 : eq? (.str "word") (.str "wrong") = some false := by decide +kernel
  have hK : ∀ {p c : Nat}, z.cps.toList[p]? = some c → inS kS.cps.toList z.cps.toList p = isK c := fun hc => by unfold inS; rw [hc]; rfl
  have hF : ∀ {p c : Nat}, z.cps.toList[p]? = some c → inS fS.cps.toList z.cps.toList p = isF c := fun hc => by unfold inS; rw [hc]; rfl
  have step : ∀ {p q : Nat} {r acc : List PyData} {b : Bool} {k t : Str}, runK z p = p → lexD z p = tk k t p → eq? (.str k) (.str "end") = some false → eq? (.str k) (.str "wrong") = some false → Fair t → p + t.cps.toList.length ≤ z.cps.toList.length → acc.length < 2000 →
      outA z (mWhile tA bA (sA z (acc ++ [tk k t p]) (lexD z (runK z (p + t.cps.toList.length))))) (acc ++ [tk k t p] ++ r) b q → outA z (mWhile tA bA (sA z acc (lexD z (runK z p)))) (acc ++ tk k t p :: r) b q := by
    intro p q r acc b k t e1 e2 e3 e4 e5 e6 e7 e8
    rw [e1, e2, mWhile_go (tA_ok e3) (bA_tok h e5 e4 e6 e7)]
    rw [List.append_assoc] at e8
    exact e8
  induction lx with
  | fin =>
    intro hp acc ha
    have e : runK z z.cps.toList.length = z.cps.toList.length := scan_out (by unfold inS; rw [List.getElem?_eq_none (Nat.le_refl _)])
    have e2 : lexD z z.cps.toList.length = tk "end" "" z.cps.toList.length := by unfold lexD; rw [List.getElem?_eq_none (Nat.le_refl _)]
    rw [e, e2]
    refine ⟨tk "end" "" z.cps.toList.length, ?_⟩
    rw [if_pos rfl, List.append_nil]
    exact mWhile_no (tA_ok k5)
  | @bad p c hc b1 b2 b3 b4 b5 =>
    intro hp acc ha
    have e : runK z p = p := scan_out (by rw [hK hc, b1])
    have e2 : lexD z p = tk "wrong" "" p := by unfold lexD; rw [hc]; simp [b2, b3, b4, b5]
    rw [e, e2]
    refine ⟨tk "wrong" "" p, ?_⟩
    rw [if_neg (by decide)]
    exact ⟨acc, mWhile_exn (tA_ok k4) bA_bad⟩
  | @blank p c q r b hc b1 _ ih =>
    intro hp acc ha
    have e : runK z p = runK z (p + 1) := scan_in (by rw [hK hc, b1])
    rw [e]
    exact ih (by have := (List.getElem?_eq_some_iff.mp hc).1; omega) acc ha
  | @sign p c q r b hc b1 b2 _ ih =>
    intro hp acc ha
    have hlt := (List.getElem?_eq_some_iff.mp hc).1
    simp only [List.length_cons] at ha
    refine step (scan_out (by rw [hK hc, b1])) (by unfold lexD; rw [hc]; simp [b2]) k1 w1 ⟨by simp [Str.length], fun c' hc' => ?_⟩ (by show p + 1 ≤ _; omega) (by omega) (ih (by omega) _ (by simp; omega))
    have : c' = c := by simpa using hc'
    subst this
    exact h.ok c' (List.mem_of_getElem? hc)
  | @zero p q r b hc _ ih =>
    intro hp acc ha
    have hlt := (List.getElem?_eq_some_iff.mp hc).1
    simp only [List.length_cons] at ha
    have g0 : isG 48 = false := by decide +kernel
    have g1 : isK 48 = false := by decide +kernel
    refine step (scan_out (by rw [hK hc, g1])) (by unfold lexD; rw [hc]; simp [g0]) k2 w2 (by rw [zero_is]; exact ⟨by simp [Str.length], fun c' hc' => by simp at hc'; omega⟩) (by rw [zero_is]; show p + 1 ≤ _; omega) (by omega) ?_
    rw [zero_is]
    have := ih (by omega) (acc ++ [tk "numeral" "0" p]) (by simp; omega)
    rw [zero_is] at this
    exact this
  | @num p c q r b hc b1 b2 b3 b4 _ ih =>
    intro hp acc ha
    have hlt := (List.getElem?_eq_some_iff.mp hc).1
    simp only [List.length_cons] at ha
    have hs : runF z p = runF z (p + 1) := scan_in (by rw [hF hc, b4])
    have hr := scan_le (S := fS.cps.toList) (cs := z.cps.toList) (p := p + 1) (by omega)
    have hle : p ≤ runF z (p + 1) ∧ runF z (p + 1) ≤ z.cps.toList.length := by unfold runF; omega
    have hcl := cut_len hle.1 hle.2
    refine step (scan_out (by rw [hK hc, b1])) (by unfold lexD; rw [hc]; simp [b2, b3, b4, hs]) k2 w2 (cut_fair h _ _) (by rw [hcl]; omega) (by omega) ?_
    rw [hcl, show p + (runF z (p + 1) - p) = runF z (p + 1) by omega]
    exact ih hle.2 _ (by simp; omega)
  | @word p c q r b hc b1 b2 b3 b4 b5 _ ih =>
    intro hp acc ha
    have hlt := (List.getElem?_eq_some_iff.mp hc).1
    simp only [List.length_cons] at ha
    have hs : runW z p = runW z (p + 1) := scan_in (by
      unfold inS; rw [hc]
      have : (aS ++ bS).cps.toList.contains c = true := b5
      show ((aS ++ bS) ++ fS).cps.toList.contains c = true
      have e : ((aS ++ bS) ++ fS).cps.toList = (aS ++ bS).cps.toList ++ fS.cps.toList := by show ((aS ++ bS).cps ++ fS.cps).toList = _; simp
      rw [e]
      simp only [List.contains_eq_mem, List.mem_append, decide_eq_true_eq] at this ⊢
      exact .inl this)
    have hr := scan_le (S := ((aS ++ bS) ++ fS).cps.toList) (cs := z.cps.toList) (p := p + 1) (by omega)
    have hle : p ≤ runW z (p + 1) ∧ runW z (p + 1) ≤ z.cps.toList.length := by unfold runW; omega
    have hcl := cut_len hle.1 hle.2
    refine step (scan_out (by rw [hK hc, b1])) (by unfold lexD; rw [hc]; simp [b2, b3, b4, b5, hs]) k3 w3 (cut_fair h _ _) (by rw [hcl]; omega) (by omega) ?_
    rw [hcl, show p + (runW z (p + 1) - p) = runW z (p + 1) by omega]
    exact ih hle.2 _ (by simp; omega)
end
end Lw

namespace Lw
noncomputable section
open PySem L2 Ev

theorem sPar2 {i j : Nat} {m n : M Opd} {s1 s2 : SV} {δ : DS} (h1 : m δ = .ok (.val s1) δ) (h2 : n δ = .ok (.val s2) δ) (hi : i < δ.length) (hj : j < δ.length) : sPar [i, j] [m, n] δ = .ok .nx ((δ.set i (some s1)).set j (some s2)) := by
  simp [sPar, evs, bnd, h1, h2, Ev.ret, takeV, take, hi, hj, setsN]
theorem sDo_ok {m : M Opd} {o : Opd} {δ δ' : DS} (h : m δ = .ok o δ') : sDo m δ = .ok .nx δ' := by
  unfold sDo
  rw [bnd_ok h]; rfl
def WS : Str := (aS ++ bS) ++ fS
def tB : M Bool := (tOf (eOp (gB2 (gCmp .Lt)) [(eSlot 4), (eOp (g1 gLen) [(eSlot 0)])]))
def tN : M Bool := (Ev.tAnd (tOf (eOp (gB2 (gCmp .NotEq)) [(eSlot 6), (eDat (.str "0"))])) (Ev.tAnd (tOf (eOp (gB2 (gCmp .Lt)) [(eSlot 7), (eOp (g1 gLen) [(eSlot 0)])])) (tOf (eOp (gB2 (gCmp .In)) [(eOp (g2 gIdx) [(eSlot 0), (eSlot 7)]), (eSlot 2)]))))
def tW : M Bool := (Ev.tAnd (tOf (eOp (gB2 (gCmp .Lt)) [(eSlot 7), (eOp (g1 gLen) [(eSlot 0)])])) (tOf (eOp (gB2 (gCmp .In)) [(eOp (g2 gIdx) [(eSlot 0), (eSlot 7)]), (eSlot 5)])))
def bN : M Flw := (sSet (gName 7) (eOp (g2 (gBin .Add)) [(eSlot 7), (eDat (.int 1))]))
def rB : M Flw := (sRet 1 (eOp (g2 (gBin .Add)) [(eSlot 3), (eLst [(false, (eTup [(false, (eDat (.str "wrong"))), (false, (eDat (.str ""))), (false, (eSlot 4))]))])]))
def cB : M Flw := (mIf (tOf (eOp (gB2 (gCmp .In)) [(eSlot 6), (eDat (.str "(),:;"))]))
 (sDo (eAppd 3 (eTup [(false, (eDat (.str "sign"))), (false, (eSlot 6)), (false, (eSlot 4))])))
 (mIf (tOf (eOp (gB2 (gCmp .In)) [(eSlot 6), (eSlot 2)]))
 (sSeq (mWhile tN bN)
 (sDo (eAppd 3 (eTup [(false, (eDat (.str "numeral"))), (false, (eCut (eSlot 0) (some (eSlot 4)) (some (eSlot 7)))), (false, (eSlot 4))]))))
 (mIf (tOf (eOp (gB2 (gCmp .In)) [(eSlot 6), (eSlot 5)]))
 (sSeq (mWhile tW bN)
 (sDo (eAppd 3 (eTup [(false, (eDat (.str "word"))), (false, (eCut (eSlot 0) (some (eSlot 4)) (some (eSlot 7)))), (false, (eSlot 4))]))))
 (mIf (tOf (eOp (gB2 (gCmp .NotIn)) [(eSlot 6), (eDat (.str " \n"))]))
 rB
 (Ev.ret .nx)))))
def bB : M Flw := (sSeq (sPar [6, 7] [(eOp (g2 gIdx) [(eSlot 0), (eSlot 4)]), (eOp (g2 (gBin .Add)) [(eSlot 4), (eDat (.int 1))])])
 (sSeq cB (sSet (gName 4) (eSlot 7))))
def sB (z : Str) (acc : List PyData) (p : Nat) (h e : Option SV) : DS := [some (.dat (.str z)), some (.dat (.str aS)), some (.dat (.str fS)), some (.lst acc), some (.dat (.int p)), some (.dat (.str WS)), h, e]
def sC (z : Str) (acc : List PyData) (p c e : Nat) : DS := sB z acc p (some (.dat (.str ⟨#[c]⟩))) (some (.dat (.int e)))
theorem inWS (c : Nat) : WS.cps.toList.contains c = (isL c || isF c) := by
  have e : WS.cps.toList = (aS ++ bS).cps.toList ++ fS.cps.toList := by show ((aS ++ bS).cps ++ fS.cps).toList = _; simp
  rw [e, isL, isF, List.contains_append]
theorem kOnly {c : Nat} (h : isK c = true) : isG c = false ∧ isF c = false ∧ isL c = false := by
  have e : kS.cps.toList = [32, 10] := by decide +kernel
  unfold isK at h
  rw [e] at h
  have : c = 32 ∨ c = 10 := by simpa using h
  rcases this with rfl | rfl <;> decide +kernel
section
variable {z : Str} {acc : List PyData} {p c : Nat}
theorem tB_ok (h : Fair z) (hh e : Option SV) : tB (sB z acc p hh e) = .ok (decide (p < z.cps.toList.length)) (sB z acc p hh e) := by
  simp only [tB, sB, Ev.tAnd, Ev.tOr, Ev.tNot, Ev.tOf, Ev.eOp, Ev.evs, Ev.bnd, Ev.eSlot, Ev.at?, Ev.ret, Ev.eDat, Ev.opN, Ev.datas, Ev.Opd.data, Ev.SV.data, Ev.gB2, Ev.g1, Ev.g2, Ev.gCmp, Ev.truth, Ev.truthy, List.getElem?_cons_zero, List.getElem?_cons_succ, Option.join_some, Option.bind_some, Option.map_some, Ev.in_one, len_of h]
  rw [show decide ((p : Int) < (z.cps.toList.length : Nat)) = decide (p < z.cps.toList.length) by simp]
theorem bB_head (h : Fair z) (hc : z.cps.toList[p]? = some c) (hh e : Option SV) : bB (sB z acc p hh e) = sSeq cB (sSet (gName 4) (eSlot 7)) (sC z acc p c (p + 1)) := by
  have hx := idx_at h hc
  have a1 : (eOp (g2 gIdx) [(eSlot 0), (eSlot 4)]) (sB z acc p hh e) = .ok (.val (.dat (.str ⟨#[c]⟩))) (sB z acc p hh e) := eOp2 (d := .str z) (d2 := .int p) (by rfl) (by rfl) (by rfl) (by rfl) hx
  have a2 : (eOp (g2 (gBin .Add)) [(eSlot 4), (eDat (.int 1))]) (sB z acc p hh e) = .ok (.val (.dat (.int (p + 1 : Nat)))) (sB z acc p hh e) := eOp2 (d := .int p) (d2 := .int 1) (by rfl) (by rfl) (by rfl) (by rfl) (by rfl)
  exact sSeq_nx (sPar2 a1 a2 (by show 6 < 8; decide) (by show 7 < 8; decide))
theorem u1 {e : Nat} : (tOf (eOp (gB2 (gCmp .In)) [(eSlot 6), (eDat (.str "(),:;"))])) (sC z acc p c e) = .ok (isG c) (sC z acc p c e) := by
  simp only [sC, sB, Ev.tAnd, Ev.tOr, Ev.tNot, Ev.tOf, Ev.eOp, Ev.evs, Ev.bnd, Ev.eSlot, Ev.at?, Ev.ret, Ev.eDat, Ev.opN, Ev.datas, Ev.Opd.data, Ev.SV.data, Ev.gB2, Ev.g1, Ev.g2, Ev.gCmp, Ev.truth, Ev.truthy, List.getElem?_cons_zero, List.getElem?_cons_succ, Option.join_some, Option.bind_some, Option.map_some, Ev.in_one]
  rfl
theorem u2 {e : Nat} : (tOf (eOp (gB2 (gCmp .In)) [(eSlot 6), (eSlot 2)])) (sC z acc p c e) = .ok (isF c) (sC z acc p c e) := by
  simp only [sC, sB, Ev.tAnd, Ev.tOr, Ev.tNot, Ev.tOf, Ev.eOp, Ev.evs, Ev.bnd, Ev.eSlot, Ev.at?, Ev.ret, Ev.eDat, Ev.opN, Ev.datas, Ev.Opd.data, Ev.SV.data, Ev.gB2, Ev.g1, Ev.g2, Ev.gCmp, Ev.truth, Ev.truthy, List.getElem?_cons_zero, List.getElem?_cons_succ, Option.join_some, Option.bind_some, Option.map_some, Ev.in_one]
  rfl
theorem u3 {e : Nat} : (tOf (eOp (gB2 (gCmp .In)) [(eSlot 6), (eSlot 5)])) (sC z acc p c e) = .ok (isL c || isF c) (sC z acc p c e) := by
  simp only [sC, sB, Ev.tAnd, Ev.tOr, Ev.tNot, Ev.tOf, Ev.eOp, Ev.evs, Ev.bnd, Ev.eSlot, Ev.at?, Ev.ret, Ev.eDat, Ev.opN, Ev.datas, Ev.Opd.data, Ev.SV.data, Ev.gB2, Ev.g1, Ev.g2, Ev.gCmp, Ev.truth, Ev.truthy, List.getElem?_cons_zero, List.getElem?_cons_succ, Option.join_some, Option.bind_some, Option.map_some, Ev.in_one, inWS]
theorem u4 {e : Nat} : (tOf (eOp (gB2 (gCmp .NotIn)) [(eSlot 6), (eDat (.str " \n"))])) (sC z acc p c e) = .ok (!isK c) (sC z acc p c e) := by
  simp only [sC, sB, Ev.tAnd, Ev.tOr, Ev.tNot, Ev.tOf, Ev.eOp, Ev.evs, Ev.bnd, Ev.eSlot, Ev.at?, Ev.ret, Ev.eDat, Ev.opN, Ev.datas, Ev.Opd.data, Ev.SV.data, Ev.gB2, Ev.g1, Ev.g2, Ev.gCmp, Ev.truth, Ev.truthy, List.getElem?_cons_zero, List.getElem?_cons_succ, Option.join_some, Option.bind_some, Option.map_some, Ev.in_one]
  rfl
theorem app_ok {e : Nat} {m : M Opd} {d : PyData} (h : m (sC z acc p c e) = .ok (.val (.dat d)) (sC z acc p c e)) (hl : acc.length < 2000) : sDo (eAppd 3 m) (sC z acc p c e) = .ok .nx (sC z (acc ++ [d]) p c e) :=
  sDo_ok (eAppd_ok (i := 3) (ds := acc) h rfl (by rw [sizeLine_eq]; omega))
theorem end_ok {e : Nat} {m : M Flw} {δ : DS} (h : m δ = .ok .nx (sC z acc p c e)) : sSeq m (sSet (gName 4) (eSlot 7)) δ = .ok .nx (sC z acc e c e) := (sSeq_nx h).trans (sSet_ok (v := .dat (.int e)) rfl rfl)
theorem cut_tok {k : Str} {e : Nat} (h : Fair z) (h1 : p ≤ e) (h2 : e ≤ z.cps.toList.length) : eTup [(false, eDat (.str k)), (false, (eCut (eSlot 0) (some (eSlot 4)) (some (eSlot 7)))), (false, (eSlot 4))] (sC z acc p c e) = .ok (.val (.dat (tk k (cutN z p e) p))) (sC z acc p c e) :=
  eTup3 (by rfl) (eCut_ok (by rfl) (by rfl) (by rfl) (cut_at h h1 h2)) (by rfl)
theorem wN (h : Fair z) (hlt : c < 0x110000) (hc : c ≠ 48) {e : Nat} (he : e ≤ z.cps.toList.length) : mWhile tN bN (sC z acc p c e) = .ok .nx (sC z acc p c (runF z e)) := by
  refine while_scan (S := fS.cps.toList) (cs := z.cps.toList) (fun e => sC z acc p c e) ?_ ?_ _ e rfl he
  · intro e he
    have h0 : eq? (.str ⟨#[c]⟩) (.str ⟨#[48]⟩) = some false := by rw [eq_one hlt (by decide), decide_eq_false hc]
    by_cases q : e < z.cps.toList.length
    · have hx := idx_at h (List.getElem?_eq_getElem q)
      have hq : ((e : Int) < (z.cps.toList.length : Nat)) := by omega
      simp only [tN, sC, sB, Ev.tAnd, Ev.tOr, Ev.tNot, Ev.tOf, Ev.eOp, Ev.evs, Ev.bnd, Ev.eSlot, Ev.at?, Ev.ret, Ev.eDat, Ev.opN, Ev.datas, Ev.Opd.data, Ev.SV.data, Ev.gB2, Ev.g1, Ev.g2, Ev.gCmp, Ev.truth, Ev.truthy, List.getElem?_cons_zero, List.getElem?_cons_succ, Option.join_some, Option.bind_some, Option.map_some, Ev.in_one, len_of h, hx, zero_is, h0, decide_eq_true hq, if_true, Bool.not_false]
      simp only [inS, List.getElem?_eq_getElem q]
    · have hq : ¬ ((e : Int) < (z.cps.toList.length : Nat)) := by omega
      simp only [tN, sC, sB, Ev.tAnd, Ev.tOr, Ev.tNot, Ev.tOf, Ev.eOp, Ev.evs, Ev.bnd, Ev.eSlot, Ev.at?, Ev.ret, Ev.eDat, Ev.opN, Ev.datas, Ev.Opd.data, Ev.SV.data, Ev.gB2, Ev.g1, Ev.g2, Ev.gCmp, Ev.truth, Ev.truthy, List.getElem?_cons_zero, List.getElem?_cons_succ, Option.join_some, Option.bind_some, Option.map_some, Ev.in_one, len_of h, zero_is, h0, decide_eq_false hq, if_true, Bool.not_false]
      simp only [inS, List.getElem?_eq_none (Nat.le_of_not_lt q)]
      rfl
  · intro e he
    rfl
theorem w0 {e : Nat} : mWhile tN bN (sC z acc p 48 e) = .ok .nx (sC z acc p 48 e) := by
  refine mWhile_no ?_
  have h0 : eq? (.str ⟨#[48]⟩) (.str ⟨#[48]⟩) = some true := by decide +kernel
  simp only [tN, sC, sB, Ev.tAnd, Ev.tOr, Ev.tNot, Ev.tOf, Ev.eOp, Ev.evs, Ev.bnd, Ev.eSlot, Ev.at?, Ev.ret, Ev.eDat, Ev.opN, Ev.datas, Ev.Opd.data, Ev.SV.data, Ev.gB2, Ev.g1, Ev.g2, Ev.gCmp, Ev.truth, Ev.truthy, List.getElem?_cons_zero, List.getElem?_cons_succ, Option.join_some, Option.bind_some, Option.map_some, Ev.in_one, zero_is, h0, Bool.not_true]
  rfl
theorem wW (h : Fair z) {e : Nat} (he : e ≤ z.cps.toList.length) : mWhile tW bN (sC z acc p c e) = .ok .nx (sC z acc p c (runW z e)) := by
  refine while_scan (S := WS.cps.toList) (cs := z.cps.toList) (fun e => sC z acc p c e) ?_ ?_ _ e rfl he
  · intro e he
    by_cases q : e < z.cps.toList.length
    · have hx := idx_at h (List.getElem?_eq_getElem q)
      have hq : ((e : Int) < (z.cps.toList.length : Nat)) := by omega
      simp only [tW, sC, sB, Ev.tAnd, Ev.tOr, Ev.tNot, Ev.tOf, Ev.eOp, Ev.evs, Ev.bnd, Ev.eSlot, Ev.at?, Ev.ret, Ev.eDat, Ev.opN, Ev.datas, Ev.Opd.data, Ev.SV.data, Ev.gB2, Ev.g1, Ev.g2, Ev.gCmp, Ev.truth, Ev.truthy, List.getElem?_cons_zero, List.getElem?_cons_succ, Option.join_some, Option.bind_some, Option.map_some, Ev.in_one, len_of h, hx, decide_eq_true hq, if_true]
      simp only [inS, List.getElem?_eq_getElem q]
    · have hq : ¬ ((e : Int) < (z.cps.toList.length : Nat)) := by omega
      simp only [tW, sC, sB, Ev.tAnd, Ev.tOr, Ev.tNot, Ev.tOf, Ev.eOp, Ev.evs, Ev.bnd, Ev.eSlot, Ev.at?, Ev.ret, Ev.eDat, Ev.opN, Ev.datas, Ev.Opd.data, Ev.SV.data, Ev.gB2, Ev.g1, Ev.g2, Ev.gCmp, Ev.truth, Ev.truthy, List.getElem?_cons_zero, List.getElem?_cons_succ, Option.join_some, Option.bind_some, Option.map_some, Ev.in_one, len_of h, decide_eq_false hq]
      simp only [inS, List.getElem?_eq_none (Nat.le_of_not_lt q)]
      rfl
  · intro e he
    rfl
theorem rB_ok {e : Nat} (hl : acc.length < 2000) : rB (sC z acc p c e) = .ok (.rt (.lst (acc ++ [tk "wrong" "" p]))) (sC z acc p c e) := by
  refine sRet_ok (eOp2 (d := .list acc) (d2 := .list [tk "wrong" "" p]) (by rfl) (eLst1 (eTup3 (by rfl) (by rfl) (by rfl))) (by rfl) (by rfl) ?_)
  show gAdd (.list acc) (.list [tk "wrong" "" p]) = _
  unfold gAdd
  simp only
  rw [if_pos (by rw [sizeLine_eq]; simp; omega)]
end
def outB (z : Str) (r : R Flw) (l : List PyData) (b : Bool) (q : Nat) : Prop := ∃ hh e : Option SV, if b = true then r = .ok .nx (sB z l q hh e) else ∃ l' q', r = .ok (.rt (.lst (l ++ [tk "wrong" "" q]))) (sB z l' q' hh e)
theorem loopB {z : Str} (h : Fair z) {p q : Nat} {r : List PyData} {b : Bool} (lx : Lx z p r b q) : p ≤ z.cps.toList.length → ∀ (acc : List PyData) (hh e : Option SV), acc.length + r.length < 2000 → outB z (mWhile tB bB (sB z acc p hh e)) (acc ++ r) b q := by
  have go : ∀ {p c p' q : Nat} {r acc acc' : List PyData} {b : Bool} {hh e : Option SV}, z.cps.toList[p]? = some c → cB (sC z acc p c (p + 1)) = .ok .nx (sC z acc' p c p') → (∀ hh e, outB z (mWhile tB bB (sB z acc' p' hh e)) r b q) → outB z (mWhile tB bB (sB z acc p hh e)) r b q := by
    intro p c p' q r acc acc' b hh e hc h1 h2
    have hlt := (List.getElem?_eq_some_iff.mp hc).1
    rw [mWhile_go ((tB_ok h hh e).trans (by rw [decide_eq_true hlt])) ((bB_head h hc hh e).trans (end_ok h1))]
    exact h2 _ _
  induction lx with
  | fin =>
    intro hp acc hh e ha
    refine ⟨hh, e, ?_⟩
    rw [if_pos rfl, List.append_nil]
    exact mWhile_no ((tB_ok h hh e).trans (by rw [decide_eq_false (Nat.lt_irrefl _)]))
  | @bad p c hc b1 b2 b3 b4 b5 =>
    intro hp acc hh e ha
    have hlt := (List.getElem?_eq_some_iff.mp hc).1
    refine ⟨some (.dat (.str ⟨#[c]⟩)), some (.dat (.int (p + 1 : Nat))), ?_⟩
    rw [if_neg (by decide), List.append_nil]
    refine ⟨acc, p, mWhile_rt ((tB_ok h hh e).trans (by rw [decide_eq_true hlt])) ((bB_head h hc hh e).trans (sSeq_rt ?_))⟩
    refine (mIf_f (u1.trans (by rw [b2]))).trans ((mIf_f (u2.trans (by rw [b4]))).trans ((mIf_f (u3.trans (by rw [b4, b5]; rfl))).trans ((mIf_t (u4.trans (by rw [b1]; rfl))).trans (rB_ok (by simp at ha; omega)))))
  | @blank p c q r b hc b1 _ ih =>
    intro hp acc hh e ha
    have hlt := (List.getElem?_eq_some_iff.mp hc).1
    obtain ⟨b2, b4, b5⟩ := kOnly b1
    exact go hc ((mIf_f (u1.trans (by rw [b2]))).trans ((mIf_f (u2.trans (by rw [b4]))).trans ((mIf_f (u3.trans (by rw [b4, b5]; rfl))).trans ((mIf_f (u4.trans (by rw [b1]; rfl))).trans rfl)))) fun hh e => ih (by omega) acc hh e ha
  | @sign p c q r b hc b1 b2 _ ih =>
    intro hp acc hh e ha
    have hlt := (List.getElem?_eq_some_iff.mp hc).1
    simp only [List.length_cons] at ha
    refine go hc ((mIf_t (u1.trans (by rw [b2]))).trans (app_ok (d := tk "sign" ⟨#[c]⟩ p) (eTup3 (by rfl) (by rfl) (by rfl)) (by omega))) fun hh e => ?_
    have := ih (by omega) (acc ++ [tk "sign" ⟨#[c]⟩ p]) hh e (by simp; omega)
    rwa [List.append_assoc] at this
  | @zero p q r b hc _ ih =>
    intro hp acc hh e ha
    have hlt := (List.getElem?_eq_some_iff.mp hc).1
    simp only [List.length_cons] at ha
    have g0 : isG 48 = false := by decide +kernel
    have g1 : isF 48 = true := by decide +kernel
    have hcut : cutN z p (p + 1) = "0" := by
      rw [zero_is, cutN, show p + 1 - p = 1 by omega]
      obtain ⟨h1, h2⟩ := List.getElem?_eq_some_iff.mp hc
      rw [List.drop_eq_getElem_cons h1, h2]; rfl
    refine go hc ((mIf_f (u1.trans (by rw [g0]))).trans ((mIf_t (u2.trans (by rw [g1]))).trans ((sSeq_nx w0).trans (app_ok (cut_tok h (by omega) (by omega)) (by omega))))) fun hh e => ?_
    rw [hcut]
    have := ih (by omega) (acc ++ [tk "numeral" "0" p]) hh e (by simp; omega)
    rwa [List.append_assoc] at this
  | @num p c q r b hc b1 b2 b3 b4 _ ih =>
    intro hp acc hh e ha
    have hlt := (List.getElem?_eq_some_iff.mp hc).1
    simp only [List.length_cons] at ha
    have hr := scan_le (S := fS.cps.toList) (cs := z.cps.toList) (p := p + 1) (by omega)
    have hle : p ≤ runF z (p + 1) ∧ runF z (p + 1) ≤ z.cps.toList.length := by unfold runF; omega
    refine go hc ((mIf_f (u1.trans (by rw [b2]))).trans ((mIf_t (u2.trans (by rw [b4]))).trans ((sSeq_nx (wN h (h.ok c (List.mem_of_getElem? hc)) b3 (by omega))).trans (app_ok (cut_tok h hle.1 hle.2) (by omega))))) fun hh e => ?_
    have := ih hle.2 (acc ++ [tk "numeral" (cutN z p (runF z (p + 1))) p]) hh e (by simp; omega)
    rwa [List.append_assoc] at this
  | @word p c q r b hc b1 b2 b3 b4 b5 _ ih =>
    intro hp acc hh e ha
    have hlt := (List.getElem?_eq_some_iff.mp hc).1
    simp only [List.length_cons] at ha
    have hr := scan_le (S := WS.cps.toList) (cs := z.cps.toList) (p := p + 1) (by omega)
    have hle : p ≤ runW z (p + 1) ∧ runW z (p + 1) ≤ z.cps.toList.length := by unfold runW; exact ⟨by have := hr.1; unfold WS at this; omega, hr.2⟩
    refine go hc ((mIf_f (u1.trans (by rw [b2]))).trans ((mIf_f (u2.trans (by rw [b4]))).trans ((mIf_t (u3.trans (by rw [b5]; rfl))).trans ((sSeq_nx (wW h (by omega))).trans (app_ok (cut_tok h hle.1 hle.2) (by omega)))))) fun hh e => ?_
    have := ih hle.2 (acc ++ [tk "word" (cutN z p (runW z (p + 1))) p]) hh e (by simp; omega)
    rwa [List.append_assoc] at this
end
end Lw

namespace Lw
noncomputable section
open PySem L2 Ev

theorem sRet_lst {np i : Nat} {m : M Opd} {s : SV} {δ δ' : DS} (h : m δ = .ok (.slot i) δ') (h1 : ¬ i < np) (h2 : at? δ' i = some s) : sRet np m δ = .ok (.rt s) (δ'.set i none) := by
  unfold sRet
  rw [bnd_ok h]
  simp [bnd, leave, h1, h2, Ev.ret]
def told (r : List PyData) (b : Bool) (q : Nat) : PyData := if b = true then .tuple [.str "told", .list r] else .tuple [.str "refused", .int q]
theorem lexemes_ok {z : Str} (h : Fair z) {r : List PyData} {b : Bool} {q : Nat} (lx : Lx z 0 r b q) (hr : r.length < 2000) : F_lexemes [.dat (.str z)] = if b = true then .ret (.lst r) [.dat (.str z)] else .exn ⟨"BadText", [("place", .int q)]⟩ [.dat (.str z)] := by
  obtain ⟨X, hX⟩ := loopA h lx (Nat.zero_le _) [] (by simpa using hr)
  have a1 : sPar [1, 2] [(eLst []), (eCall F_lexeme_at (evs [(eSlot 0), (eDat (.int 0))]))] [some (.dat (.str z)), none, none] = .ok .nx (sA z [] (lexD z (runK z 0))) := by
    refine (sPar2 (s1 := .lst []) (s2 := .dat (lexD z (runK z 0))) ?_ ?_ (by simp) (by simp)).trans rfl
    · have e : 0 ≤ sizeLine := Nat.zero_le _
      simp [eLst, evS, bnd, Ev.ret, takes]
    · exact eCall_ok (ds := [.str z, .int (0 : Nat)]) rfl (lexeme_at_ok h (Nat.zero_le _))
  cases b with
  | true =>
    rw [if_pos rfl] at hX ⊢
    refine fnOf_rt rfl rfl (δ' := [some (.dat (.str z)), none, some (.dat X)]) ?_ rfl
    refine (sSeq_nx a1).trans ((sSeq_nx hX).trans ?_)
    exact sRet_lst (i := 1) rfl (by decide) rfl
  | false =>
    rw [if_neg (by decide)] at hX ⊢
    obtain ⟨l', hX⟩ := hX
    refine fnOf_exn rfl rfl (δ' := sA z l' X) ?_ rfl
    exact (sSeq_nx a1).trans (sSeq_exn hX)
theorem told_ok {z : Str} (h : Fair z) {r : List PyData} {b : Bool} {q : Nat} (lx : Lx z 0 r b q) (hr : r.length < 2000) : F__law_told_lexemes [.dat (.str z)] = .ret (.dat (told r b q)) [.dat (.str z)] := by
  have e := lexemes_ok h lx hr
  cases b with
  | true =>
    rw [if_pos rfl] at e
    refine fnOf_rt rfl rfl (δ' := [some (.dat (.str z)), none]) ?_ rfl
    have : (sRet 1 (eTup [(false, (eDat (.str "told"))), (false, (eCall F_lexemes (evs [(eSlot 0)])))])) [some (.dat (.str z)), none] = .ok (.rt (.dat (told r true q))) [some (.dat (.str z)), none] :=
      sRet_ok (eTup2 (by rfl) (eCall_ok (ds := [.str z]) (by rfl) e) (by rfl))
    show sTryRet _ _ _ _ _ _ = _
    unfold sTryRet
    simp only [List.map, List.replicate, List.append, HAppend.hAppend, Append.append]
    rw [this]
  | false =>
    rw [if_neg (by decide)] at e
    refine fnOf_rt rfl rfl (δ' := [some (.dat (.str z)), none]) ?_ rfl
    have : (sRet 1 (eTup [(false, (eDat (.str "told"))), (false, (eCall F_lexemes (evs [(eSlot 0)])))])) [some (.dat (.str z)), none] = .exn ⟨"BadText", [("place", .int q)]⟩ [some (.dat (.str z)), none] := by
      have e1 : eCall F_lexemes (evs [(eSlot 0)]) [some (.dat (.str z)), none] = .exn ⟨"BadText", [("place", .int q)]⟩ [some (.dat (.str z)), none] := eCall_exn (ds := [.str z]) (by rfl) e
      simp [sRet, eTup, evS, bnd, e1, eDat, Ev.ret]
    show sTryRet _ _ _ _ _ _ = _
    unfold sTryRet
    simp only [List.map, List.replicate, List.append, HAppend.hAppend, Append.append]
    rw [this]
    rfl
def lastD (z : Str) (b : Bool) (q : Nat) : PyData := if b = true then tk "end" "" q else tk "wrong" "" q
theorem lx_end {z : Str} {p q : Nat} {r : List PyData} {b : Bool} (lx : Lx z p r b q) : b = true → q = z.cps.toList.length := by
  induction lx with
  | fin => intro _; rfl
  | bad => intro h; cases h
  | blank _ _ _ ih => exact ih
  | sign _ _ _ _ ih => exact ih
  | zero _ _ ih => exact ih
  | num _ _ _ _ _ _ ih => exact ih
  | word _ _ _ _ _ _ _ ih => exact ih
theorem up_ab : gUpper [.str "abcdefghijklmnopqrstuvwxyz"] = some (.dat (.str bS)) := by
  have e : Txt.upper "abcdefghijklmnopqrstuvwxyz" = bS := by decide +kernel
  unfold gUpper
  simp only
  rw [if_pos (by decide +kernel), e]
theorem law_lexemes_ok {z : Str} (h : Fair z) {r : List PyData} {b : Bool} {q : Nat} (lx : Lx z 0 r b q) (hr : r.length < 1999) : F__law_lexemes [.dat (.str z)] = .ret (.lst (r ++ [lastD z b q])) [.dat (.str z)] := by
  obtain ⟨hh, e, hX⟩ := loopB h lx (Nat.zero_le _) [] none none (by simp; omega)
  have a0 : (sSet (gName 1) (eDat (.str "abcdefghijklmnopqrstuvwxyz"))) [some (.dat (.str z)), none, none, none, none, none, none, none] = .ok .nx [some (.dat (.str z)), some (.dat (.str aS)), none, none, none, none, none, none] := rfl
  have a1 : sPar [2, 3, 4] [(eDat (.str "0123456789")), (eLst []), (eDat (.int 0))] [some (.dat (.str z)), some (.dat (.str aS)), none, none, none, none, none, none] = .ok .nx [some (.dat (.str z)), some (.dat (.str aS)), some (.dat (.str fS)), some (.lst []), some (.dat (.int (0 : Nat))), none, none, none] := by
    have e0 : 0 ≤ sizeLine := Nat.zero_le _
    simp [sPar, evs, bnd, eDat, eLst, evS, Ev.ret, takes, takeV, take, setsN]
    rfl
  have a2 : (sSet (gName 5) (eOp (g2 (gBin .Add)) [(eOp (g2 (gBin .Add)) [(eSlot 1), (eMt "str" gUpper (eSlot 1) (evs []))]), (eSlot 2)])) [some (.dat (.str z)), some (.dat (.str aS)), some (.dat (.str fS)), some (.lst []), some (.dat (.int (0 : Nat))), none, none, none] = .ok .nx (sB z [] 0 none none) := by
    refine sSet_ok (v := .dat (.str WS)) (δ1 := [some (.dat (.str z)), some (.dat (.str aS)), some (.dat (.str fS)), some (.lst []), some (.dat (.int (0 : Nat))), none, none, none]) ?_ (by rfl)
    have m1 : eMt "str" gUpper (eSlot 1) (evs []) [some (.dat (.str z)), some (.dat (.str aS)), some (.dat (.str fS)), some (.lst []), some (.dat (.int (0 : Nat))), none, none, none] = .ok (.val (.dat (.str bS))) [some (.dat (.str z)), some (.dat (.str aS)), some (.dat (.str fS)), some (.lst []), some (.dat (.int (0 : Nat))), none, none, none] := by
      simp [eMt, Ev.tAnd, Ev.tOr, Ev.tNot, Ev.tOf, Ev.eOp, Ev.evs, Ev.bnd, Ev.eSlot, Ev.at?, Ev.ret, Ev.eDat, Ev.opN, Ev.datas, Ev.Opd.data, Ev.SV.data, Ev.gB2, Ev.g1, Ev.g2, Ev.gCmp, Ev.truth, Ev.truthy, List.getElem?_cons_zero, List.getElem?_cons_succ, Option.join_some, Option.bind_some, Option.map_some, Ev.in_one, tyN]
      rw [show gUpper [.str aS] = some (.dat (.str bS)) from up_ab]
    exact eOp2 (d := .str (aS ++ bS)) (d2 := .str fS) (eOp2 (d := .str aS) (d2 := .str bS) (by rfl) m1 (by rfl) (by rfl) ab_cat) (by rfl) (by rfl) (by rfl) abf_cat
  cases b with
  | true =>
    rw [if_pos rfl] at hX
    have eq := lx_end lx rfl
    refine fnOf_rt rfl rfl (δ' := sB z ([] ++ r) q hh e) ?_ rfl
    refine (sSeq_nx a0).trans ((sSeq_nx a1).trans ((sSeq_nx a2).trans ((sSeq_nx hX).trans ?_)))
    have hlen : (eOp (g1 gLen) [(eSlot 0)]) (sB z ([] ++ r) q hh e) = .ok (.val (.dat (.int q))) (sB z ([] ++ r) q hh e) := eOp1 (d := .str z) (by rfl) (by rfl) (by rw [eq]; exact len_of h)
    refine sRet_ok (eOp2 (d := .list r) (d2 := .list [tk "end" "" q]) (by rfl) (eLst1 (eTup3 (by rfl) (by rfl) hlen)) (by rfl) (by rfl) ?_)
    show gAdd (.list r) (.list [tk "end" "" q]) = _
    unfold gAdd
    simp only
    rw [if_pos (by rw [sizeLine_eq]; simp; omega)]
    rfl
  | false =>
    rw [if_neg (by decide)] at hX
    obtain ⟨l', q', hX⟩ := hX
    refine fnOf_rt rfl rfl (δ' := sB z l' q' hh e) ?_ rfl
    exact (sSeq_nx a0).trans ((sSeq_nx a1).trans ((sSeq_nx a2).trans (sSeq_rt hX)))
end
end Lw

namespace Lw
noncomputable section
open PySem L2 Ev
def it1 : M (List PyData) := (itE (eOp (g2 (gBin .Add)) [(eSlot 8), (eLst [(false, (eSlot 7)), (false, (eOp (g2 (gBin .Add)) [(eSlot 7), (eCut (eSlot 7) none (some (eDat (.int 1))))])), (false, (eOp (g1 gRevX) [(eSlot 7)])), (false, (eCall F__law_of (evs [(eSlot 1), (eCall F__law_kept (evs []))])))])]))
def body1 : M Flw := (sSeq (sSet (gName 10) (eAnd (eOp (g1 (gIsi "str")) [(eSlot 9)]) (eAnd (eOp (gB2 (gCmp .NotEq)) [(eSlot 9), (eDat (.str ""))]) (eOp (gB2 (gCmp .Lt)) [(eOp (g1 gLen) [(eSlot 9)]), (eDat (.int 5))]))))
 (sSeq (sSet (gName 11) (eAnd (eSlot 10) (eOp (gB2 (gCmp .Eq)) [(eComp (itE (eSlot 9)) (gName 16) (tOf (eOp (gB2 (gCmp .NotIn)) [(eSlot 16), (eDat (.str "abcdefghijklmnopqrstuvwxyz"))])) (eSlot 16) [16]), (eLst [])])))
 (sSeq (sSet (gName 11) (eAnd (eSlot 11) (eOp (gB2 (gCmp .Eq)) [(eComp (itZip [(eSlot 9), (eCut (eSlot 9) (some (eDat (.int 1))) none)]) (gTup [(gName 17), (gName 18)]) (tOf (eOp (gB2 (gCmp .GtE)) [(eSlot 17), (eSlot 18)])) (eDat (.int 1)) [17, 18]), (eLst [])])))
 (sSeq (mIf (tOf (eOp (gB2 (gCmp .NotEq)) [(eOp (g1 gRepr) [(eCall F_are_letters (evs [(eSlot 9)]))]), (eOp (g1 gRepr) [(eSlot 11)])]))
 (sRet 1 (eDat (.bool false)))
 (Ev.ret .nx))
 (sSeq (sSet (gName 12) (eAnd (eOp (g1 (gIsi "str")) [(eSlot 9)]) (eOp (gB2 (gCmp .Eq)) [(eComp (itE (eSlot 9)) (gName 16) (tOf (eOp (gB2 (gCmp .NotIn)) [(eSlot 16), (eOp (g1 gListX) [(eSlot 7)])])) (eSlot 16) [16]), (eLst [])])))
 (mIf (tOf (eOp (gB2 (gCmp .NotEq)) [(eOp (g1 gRepr) [(eCall F_is_word_of (evs [(eSlot 7), (eSlot 9)]))]), (eOp (g1 gRepr) [(eSlot 12)])]))
 (sRet 1 (eDat (.bool false)))
 (Ev.ret .nx)))))))
def m_lettersI : M Flw :=
 (sSeq (mIf (Ev.tOr (Ev.tNot (tOf (eOp (g1 (gIsi "str")) [(eSlot 0)]))) (Ev.tNot (tOf (eChain .Lt .LtE (eDat (.int 0)) (eOp (g1 gLen) [(eSlot 0)]) (eDat (.int 4))))))
 (sRet 1 (eDat (.bool false)))
 (Ev.ret .nx))
 (sRet 1 (eAnd (eOp (g1 gAll) [(eComp (itE (eSlot 0)) (gName 1) (Ev.ret true) (eOp (gB2 (gCmp .In)) [(eSlot 1), (eDat (.str "abcdefghijklmnopqrstuvwxyz"))]) [1])]) (eOp (gB2 (gCmp .Eq)) [(eOp (g1 gListX) [(eSlot 0)]), (eOp (g1 gSortedI) [(eOp (g1 gDictOf) [(eComp (itE (eSlot 0)) (gName 1) (Ev.ret true) (eTup [(false, (eSlot 1)), (false, (eDat (.bool true)))]) [1])])])]))))
def lettersI : FN := fnOf 1 1 [] m_lettersI
theorem letters_eq : F_are_letters = lettersI := by
  unfold F_are_letters lettersI m_are_letters m_lettersI
  rw [gSorted_eq]
def body1I : M Flw := (sSeq (sSet (gName 10) (eAnd (eOp (g1 (gIsi "str")) [(eSlot 9)]) (eAnd (eOp (gB2 (gCmp .NotEq)) [(eSlot 9), (eDat (.str ""))]) (eOp (gB2 (gCmp .Lt)) [(eOp (g1 gLen) [(eSlot 9)]), (eDat (.int 5))]))))
 (sSeq (sSet (gName 11) (eAnd (eSlot 10) (eOp (gB2 (gCmp .Eq)) [(eComp (itE (eSlot 9)) (gName 16) (tOf (eOp (gB2 (gCmp .NotIn)) [(eSlot 16), (eDat (.str "abcdefghijklmnopqrstuvwxyz"))])) (eSlot 16) [16]), (eLst [])])))
 (sSeq (sSet (gName 11) (eAnd (eSlot 11) (eOp (gB2 (gCmp .Eq)) [(eComp (itZip [(eSlot 9), (eCut (eSlot 9) (some (eDat (.int 1))) none)]) (gTup [(gName 17), (gName 18)]) (tOf (eOp (gB2 (gCmp .GtE)) [(eSlot 17), (eSlot 18)])) (eDat (.int 1)) [17, 18]), (eLst [])])))
 (sSeq (mIf (tOf (eOp (gB2 (gCmp .NotEq)) [(eOp (g1 gRepr) [(eCall lettersI (evs [(eSlot 9)]))]), (eOp (g1 gRepr) [(eSlot 11)])]))
 (sRet 1 (eDat (.bool false)))
 (Ev.ret .nx))
 (sSeq (sSet (gName 12) (eAnd (eOp (g1 (gIsi "str")) [(eSlot 9)]) (eOp (gB2 (gCmp .Eq)) [(eComp (itE (eSlot 9)) (gName 16) (tOf (eOp (gB2 (gCmp .NotIn)) [(eSlot 16), (eOp (g1 gListX) [(eSlot 7)])])) (eSlot 16) [16]), (eLst [])])))
 (mIf (tOf (eOp (gB2 (gCmp .NotEq)) [(eOp (g1 gRepr) [(eCall F_is_word_of (evs [(eSlot 7), (eSlot 9)]))]), (eOp (g1 gRepr) [(eSlot 12)])]))
 (sRet 1 (eDat (.bool false)))
 (Ev.ret .nx)))))))
theorem body_eq : body1 = body1I := by
  unfold body1 body1I
  rw [letters_eq]
def set13 : M Flw := (sSet (gName 13) (eOp (g2 (gBin .Add)) [(eOp (g2 (gBin .Add)) [(eSlot 8), (eCall F__law_kept (evs []))]), (eLst [(false, (eDat (.str "x"))), (false, (eDat (.str "X"))), (false, (eDat (.str "xX"))), (false, (eDat (.str "x1"))), (false, (eDat (.str "X1b"))), (false, (eDat (.str "1x"))), (false, (eOp (g2 (gBin .Mult)) [(eDat (.str "x")), (eDat (.int 12))])), (false, (eOp (g2 (gBin .Mult)) [(eDat (.str "x")), (eDat (.int 13))])), (false, (eDat (.str "Not"))), (false, (eDat (.str "nots"))), (false, (eDat (.str "A"))), (false, (eDat (.str "x-"))), (false, (eDat (.str "B2")))])]))
def for2 : M Flw := (sFor (itE (eOp (g2 (gBin .Add)) [(eSlot 13), (eLst [(false, (eSlot 7)), (false, (eCut (eSlot 7) none (some (eDat (.int 1))))), (false, (eOp (g2 (gBin .Add)) [(eCut (eSlot 7) none (some (eDat (.int 1)))), (eDat (.str "0"))]))])])) (gName 9)
 (sSeq (sPar [6, 14] [(eCall F__law_is_name (evs [(eSlot 7), (eSlot 9)])), (eDat (.str "abcdefghijklmnopqrstuvwxyz"))])
 (sSeq (sSet (gName 15) (eLst [(false, (eCall F_is_name (evs [(eSlot 7), (eSlot 9)]))), (false, (eCall F_is_small_name (evs [(eSlot 7), (eSlot 9)]))), (false, (eCall F_is_big_name (evs [(eSlot 7), (eSlot 9)])))]))
 (mIf (tOf (eOp (gB2 (gCmp .NotEq)) [(eOp (g1 gRepr) [(eSlot 15)]), (eOp (g1 gRepr) [(eLst [(false, (eSlot 6)), (false, (eAnd (eSlot 6) (eOp (gB2 (gCmp .In)) [(eOp (g2 gIdx) [(eSlot 9), (eDat (.int 0))]), (eSlot 14)]))), (false, (eAnd (eSlot 6) (eOp (gB2 (gCmp .NotIn)) [(eOp (g2 gIdx) [(eSlot 9), (eDat (.int 0))]), (eSlot 14)])))])])]))
 (sRet 1 (eDat (.bool false)))
 (Ev.ret .nx)))))
def set7 : M Flw := (sSet (gName 7) (eCall F__law_of (evs [(eSlot 1), (eLst [(false, (eDat (.str "a"))), (false, (eDat (.str "ab"))), (false, (eDat (.str "abc"))), (false, (eDat (.str "acdz"))), (false, (eDat (.str "xy")))])])))
def set8 : M Flw := (sSet (gName 8) (eLst [(false, (eDat .none)), (false, (eDat (.bool true))), (false, (eDat (.int 0))), (false, (eTup [])), (false, (eTup [(false, (eDat (.str "a")))])), (false, (eLst [(false, (eDat (.str "a"))), (false, (eDat (.str "b")))])), (false, (eDat (.str ""))), (false, (eDat (.str "a"))), (false, (eDat (.str "ba"))), (false, (eDat (.str "aa"))), (false, (eDat (.str "abcd"))), (false, (eDat (.str "abcde"))), (false, (eDat (.str "aB"))), (false, (eDat (.str "a1"))), (false, (eDat (.str "az"))), (false, (eDat (.str "x"))), (false, (eDat (.str "xyz")))]))
def last1 : M Flw := (sRet 1 (eOp (gB2 (gCmp .Eq)) [(eOp (g2 gIdx) [(eCall F_lexemes (evs [(eDat (.str "a(x0)"))])), (eDat (.int 2))]), (eTup [(false, (eDat (.str "word"))), (false, (eDat (.str "x0"))), (false, (eDat (.int 2)))])]))
def for0 : M Flw := (sFor (itRng1 (eDat (.int 8))) (gName 2)
 (sSeq (sSet (gName 3) (eLst [(false, (eDat (.str "a"))), (false, (eDat (.str "ab"))), (false, (eDat (.str "X"))), (false, (eDat (.str "Xs1"))), (false, (eDat (.str "x0"))), (false, (eDat (.str "some"))), (false, (eDat (.str "not"))), (false, (eDat (.str "007"))), (false, (eDat (.str "12"))), (false, (eDat (.str "0"))), (false, (eDat (.str "("))), (false, (eDat (.str ")"))), (false, (eDat (.str ","))), (false, (eDat (.str ":"))), (false, (eDat (.str ";"))), (false, (eDat (.str " "))), (false, (eDat (.str "\n"))), (false, (eDat (.str "z9Q")))]))
 (sSeq (sSet (gName 4) (eMt "str" gJoin (eDat (.str "")) (evs [(eComp (itRng1 (eCall F__law_pick (evs [(eSlot 1), (eDat (.int 12))]))) (gName 5) (Ev.ret true) (eCall F__law_of (evs [(eSlot 1), (eSlot 3)])) [5])])))
 (sSeq (mIf (tOf (eOp (gB2 (gCmp .Eq)) [(eCall F__law_pick (evs [(eSlot 1), (eDat (.int 3))])), (eDat (.int 0))]))
 (sSeq (sSet (gName 5) (eCall F__law_pick (evs [(eSlot 1), (eOp (g2 (gBin .Add)) [(eOp (g1 gLen) [(eSlot 4)]), (eDat (.int 1))])])))
 (sSet (gName 4) (eOp (g2 (gBin .Add)) [(eOp (g2 (gBin .Add)) [(eCut (eSlot 4) none (some (eSlot 5))), (eCall F__law_of (evs [(eSlot 1), (eLst [(false, (eDat (.str "?"))), (false, (eDat (.str "."))), (false, (eDat (.str "\t"))), (false, (eDat (.str "-"))), (false, (eDat (.str "_"))), (false, (eDat (.str "=")))])]))]), (eCut (eSlot 4) (some (eSlot 5)) none)])))
 (Ev.ret .nx))
 (sSeq (sSet (gName 6) (eCall F__law_lexemes (evs [(eSlot 4)])))
 (sSeq (sSet (gName 6) (mIf (tOf (eOp (gB2 (gCmp .Eq)) [(eOp (g2 gIdx) [(eOp (g2 gIdx) [(eSlot 6), (eOp (g1 (gUn .USub)) [(eDat (.int 1))])]), (eDat (.int 0))]), (eDat (.str "end"))])) (eTup [(false, (eDat (.str "told"))), (false, (eCut (eSlot 6) none (some (eOp (g1 (gUn .USub)) [(eDat (.int 1))]))))]) (eTup [(false, (eDat (.str "refused"))), (false, (eOp (g2 gIdx) [(eOp (g2 gIdx) [(eSlot 6), (eOp (g1 (gUn .USub)) [(eDat (.int 1))])]), (eDat (.int 2))]))])))
 (mIf (tOf (eOp (gB2 (gCmp .NotEq)) [(eOp (g1 gRepr) [(eCall F__law_told_lexemes (evs [(eSlot 4)]))]), (eOp (g1 gRepr) [(eSlot 6)])]))
 (sRet 1 (eDat (.bool false)))
 (Ev.ret .nx))))))))
def set1 : M Flw := (sSet (gName 1) (eCall F__law_source (evs [(eSlot 0)])))
theorem law_is : F_law = fnOf 1 18 [1, 2, 3, 4, 5, 6, 7, 8, 9, 10, 11, 12, 13, 14, 15] (sSeq set1 (sSeq for0 (sSeq set7 (sSeq set8 (sSeq (sFor it1 (gName 9) body1) (sSeq set13 (sSeq for2 last1))))))) := rfl
theorem mo_body1 {B : Nat → Option SV} : Mo [0, 8] B body1 := (mo_sSeq (mo_sSet (mo_gName (by decide)) (mo_eAnd (mo_eOp (MoA.cons (mo_eSlot _) MoA.nil)) (mo_eAnd (mo_eOp (MoA.cons (mo_eSlot _) (MoA.cons (mo_eDat _) MoA.nil))) (mo_eOp (MoA.cons (mo_eOp (MoA.cons (mo_eSlot _) MoA.nil)) (MoA.cons (mo_eDat _) MoA.nil)))))) (mo_sSeq (mo_sSet (mo_gName (by decide)) (mo_eAnd (mo_eSlot _) (mo_eOp (MoA.cons (mo_eComp (mo_gName (by decide)) (by decide) (mo_itE (mo_eSlot _)) (mo_tOf (mo_eOp (MoA.cons (mo_eSlot _) (MoA.cons (mo_eDat _) MoA.nil)))) (mo_eSlot _)) (MoA.cons (mo_eLst MoS.nil) MoA.nil))))) (mo_sSeq (mo_sSet (mo_gName (by decide)) (mo_eAnd (mo_eSlot _) (mo_eOp (MoA.cons (mo_eComp (mo_gTup (MoTs.cons (mo_gName (by decide)) (MoTs.cons (mo_gName (by decide)) MoTs.nil))) (by decide) (mo_itZip (MoA.cons (mo_eSlot _) (MoA.cons (mo_eCut (mo_eSlot _) (mo_partS (mo_eDat _)) mo_partN) MoA.nil))) (mo_tOf (mo_eOp (MoA.cons (mo_eSlot _) (MoA.cons (mo_eSlot _) MoA.nil)))) (mo_eDat _)) (MoA.cons (mo_eLst MoS.nil) MoA.nil))))) (mo_sSeq (mo_mIf (mo_tOf (mo_eOp (MoA.cons (mo_eOp (MoA.cons (mo_eCall (mo_evs (MoA.cons (mo_eSlot _) MoA.nil))) MoA.nil)) (MoA.cons (mo_eOp (MoA.cons (mo_eSlot _) MoA.nil)) MoA.nil)))) (mo_sRet (mo_eDat _)) (mo_ret _)) (mo_sSeq (mo_sSet (mo_gName (by decide)) (mo_eAnd (mo_eOp (MoA.cons (mo_eSlot _) MoA.nil)) (mo_eOp (MoA.cons (mo_eComp (mo_gName (by decide)) (by decide) (mo_itE (mo_eSlot _)) (mo_tOf (mo_eOp (MoA.cons (mo_eSlot _) (MoA.cons (mo_eOp (MoA.cons (mo_eSlot _) MoA.nil)) MoA.nil)))) (mo_eSlot _)) (MoA.cons (mo_eLst MoS.nil) MoA.nil))))) (mo_mIf (mo_tOf (mo_eOp (MoA.cons (mo_eOp (MoA.cons (mo_eCall (mo_evs (MoA.cons (mo_eSlot _) (MoA.cons (mo_eSlot _) MoA.nil)))) MoA.nil)) (MoA.cons (mo_eOp (MoA.cons (mo_eSlot _) MoA.nil)) MoA.nil)))) (mo_sRet (mo_eDat _)) (mo_ret _)))))))
theorem mo_set13 {B : Nat → Option SV} : Mo [0] B set13 := (mo_sSet (mo_gName (by decide)) (mo_eOp (MoA.cons (mo_eOp (MoA.cons (mo_eSlot _) (MoA.cons (mo_eCall (mo_evs MoA.nil)) MoA.nil))) (MoA.cons (mo_eLst (MoS.cons (mo_eDat _) (MoS.cons (mo_eDat _) (MoS.cons (mo_eDat _) (MoS.cons (mo_eDat _) (MoS.cons (mo_eDat _) (MoS.cons (mo_eDat _) (MoS.cons (mo_eOp (MoA.cons (mo_eDat _) (MoA.cons (mo_eDat _) MoA.nil))) (MoS.cons (mo_eOp (MoA.cons (mo_eDat _) (MoA.cons (mo_eDat _) MoA.nil))) (MoS.cons (mo_eDat _) (MoS.cons (mo_eDat _) (MoS.cons (mo_eDat _) (MoS.cons (mo_eDat _) (MoS.cons (mo_eDat _) MoS.nil)))))))))))))) MoA.nil))))
theorem mo_for2 {B : Nat → Option SV} : Mo [0] B for2 := (mo_sFor (mo_gName (by decide)) (mo_itE (mo_eOp (MoA.cons (mo_eSlot _) (MoA.cons (mo_eLst (MoS.cons (mo_eSlot _) (MoS.cons (mo_eCut (mo_eSlot _) mo_partN (mo_partS (mo_eDat _))) (MoS.cons (mo_eOp (MoA.cons (mo_eCut (mo_eSlot _) mo_partN (mo_partS (mo_eDat _))) (MoA.cons (mo_eDat _) MoA.nil))) MoS.nil)))) MoA.nil)))) (mo_sSeq (mo_sPar (by decide) (MoA.cons (mo_eCall (mo_evs (MoA.cons (mo_eSlot _) (MoA.cons (mo_eSlot _) MoA.nil)))) (MoA.cons (mo_eDat _) MoA.nil))) (mo_sSeq (mo_sSet (mo_gName (by decide)) (mo_eLst (MoS.cons (mo_eCall (mo_evs (MoA.cons (mo_eSlot _) (MoA.cons (mo_eSlot _) MoA.nil)))) (MoS.cons (mo_eCall (mo_evs (MoA.cons (mo_eSlot _) (MoA.cons (mo_eSlot _) MoA.nil)))) (MoS.cons (mo_eCall (mo_evs (MoA.cons (mo_eSlot _) (MoA.cons (mo_eSlot _) MoA.nil)))) MoS.nil))))) (mo_mIf (mo_tOf (mo_eOp (MoA.cons (mo_eOp (MoA.cons (mo_eSlot _) MoA.nil)) (MoA.cons (mo_eOp (MoA.cons (mo_eLst (MoS.cons (mo_eSlot _) (MoS.cons (mo_eAnd (mo_eSlot _) (mo_eOp (MoA.cons (mo_eOp (MoA.cons (mo_eSlot _) (MoA.cons (mo_eDat _) MoA.nil))) (MoA.cons (mo_eSlot _) MoA.nil)))) (MoS.cons (mo_eAnd (mo_eSlot _) (mo_eOp (MoA.cons (mo_eOp (MoA.cons (mo_eSlot _) (MoA.cons (mo_eDat _) MoA.nil))) (MoA.cons (mo_eSlot _) MoA.nil)))) MoS.nil)))) MoA.nil)) MoA.nil)))) (mo_sRet (mo_eDat _)) (mo_ret _)))))
def values : List PyData := [.none, (.bool true), (.int 0), (.tuple []), (.tuple [(.str "a")]), (.list [(.str "a"), (.str "b")]), (.str ""), (.str "a"), (.str "ba"), (.str "aa"), (.str "abcd"), (.str "abcde"), (.str "aB"), (.str "a1"), (.str "az"), (.str "x"), (.str "xyz")]
theorem set8_ok {δ : DS} (h : δ.length = 19) : set8 δ = .ok .nx (δ.set 8 (some (.lst values))) := by
  refine sSet_ok (v := .lst values) (δ1 := δ) ?_ (by unfold Ev.gName; rw [if_pos (by omega)])
  rfl
def lets : List Str := ["a", "ab", "abc", "acdz", "xy"]
def dMin (l : Str) : DS := (List.replicate 19 none).set 7 (some (.dat (.str l)))
def dMin2 (l : Str) : DS := ((List.replicate 19 none).set 7 (some (.dat (.str l)))).set 8 (some (.lst values))
def run1 (l : Str) (d : PyData) : R Flw := bnd (asg (gName 9) (.dat d)) (fun _ => body1I) (dMin l)
def okR (l : Str) : R Flw → Bool
  | .ok .nx δ => δ.length == 19 && (match at? δ 7 with
    | some (.dat (.str x)) => x == l
    | _ => false)
  | _ => false
theorem okR_of {l : Str} {r : R Flw} (h : okR l r = true) : ∃ δ, r = .ok .nx δ ∧ δ.length = 19 ∧ at? δ 7 = some (.dat (.str l)) := by
  unfold okR at h
  split at h
  · rename_i δ
    simp only [Bool.and_eq_true, beq_iff_eq] at h
    obtain ⟨h1, h2⟩ := h
    refine ⟨δ, rfl, h1, ?_⟩
    split at h2
    · rename_i x e
      rw [e, eq_of_beq h2]
    · cases h2
  · cases h
def addl (l : Str) : List PyData := match gCut none (some 1) (.str l), gRevX (.str l) with
  | some (.dat (.str a)), some (.dat (.str b)) => [.str l, .str (l ++ a), .str b]
  | _, _ => []
theorem chk1 : (lets.all fun l => (values ++ addl l).all fun d => okR l (run1 l d)) = true := by decide +kernel
def keptOk : Bool := match F__law_kept [] with
  | .ret (.lst ds) [] => decide (1 ≤ ds.length) && decide (ds.length < 1000) && ds.all fun w => lets.all fun l => okR l (run1 l w)
  | _ => false
theorem chk2 : keptOk = true := by decide +kernel
theorem chk3 : (lets.all fun l => okR l (sSeq set13 for2 (dMin2 l))) = true := by decide +kernel
end
end Lw

namespace Lw
noncomputable section
open PySem L2 Ev

structure Inv (s0 : SV) (l : Str) (δ : DS) : Prop where
  len : δ.length = 19
  a7 : at? δ 7 = some (.dat (.str l))
  a0 : at? δ 0 = some s0
  a8 : at? δ 8 = some (.lst values)
def bs (s0 : SV) (i : Nat) : Option SV := if i = 0 then some s0 else some (.lst values)
theorem at_nil (n i : Nat) : at? (List.replicate n none) i = none := by
  unfold at?
  rw [List.getElem?_replicate]
  split <;> rfl
theorem Inv.le {s0 : SV} {l : Str} {δ : DS} (h : Inv s0 l δ) : Le [0, 8] (bs s0) (dMin l) δ := by
  refine ⟨by rw [h.len]; rfl, fun i s e => ?_, fun i hi => ?_⟩
  · unfold dMin at e
    rw [at_set, at_nil] at e
    split at e
    · rename_i c; rw [← c.1, h.a7]; exact e
    · cases e
  · simp only [List.mem_cons, List.mem_singleton, List.not_mem_nil, or_false] at hi
    rcases hi with rfl | rfl
    · exact ⟨rfl, h.a0⟩
    · exact ⟨rfl, h.a8⟩
theorem bnd_assoc {α β γ : Type} (m : M α) (f : α → M β) (g : β → M γ) : bnd m (fun a => bnd (f a) g) = bnd (bnd m f) g := by
  funext δ
  unfold bnd
  cases m δ <;> rfl
theorem for1 {s0 : SV} {l : Str} : ∀ (ds : List PyData), (∀ d ∈ ds, okR l (run1 l d) = true) → ∀ δ, Inv s0 l δ → ∃ δ', forM (Ev.gName 9) body1 ds δ = .ok .nx δ' ∧ Inv s0 l δ'
  | [], _, δ, h => ⟨δ, rfl, h⟩
  | d :: ds, hd, δ, h => by
    obtain ⟨δ1, e1, h1, h2⟩ := okR_of (hd d (by simp))
    unfold run1 at e1
    rw [← body_eq] at e1
    obtain ⟨δ2, e2, hl⟩ := mo_ok (mo_bnd (mo_asg (mo_gName (J := [0, 8]) (B := bs s0) (i := 9) (by decide)) (.dat d)) fun _ => mo_body1) h.le e1
    have i2 : Inv s0 l δ2 := ⟨by rw [hl.len, h1], hl.le _ _ h2, (hl.pr 0 (by decide)).2, (hl.pr 8 (by decide)).2⟩
    obtain ⟨δ3, e3, i3⟩ := for1 ds (fun x hx => hd x (List.mem_cons_of_mem _ hx)) δ2 i2
    refine ⟨δ3, ?_, i3⟩
    unfold Ev.forM
    rw [bnd_assoc, bnd_ok e2]
    exact e3
theorem slot_dat {δ : DS} {i : Nat} {d : PyData} (h : at? δ i = some (.dat d)) : eSlot i δ = .ok (.val (.dat d)) δ := by
  unfold eSlot; rw [h]
theorem slot_lst {δ : DS} {i : Nat} {ds : List PyData} (h : at? δ i = some (.lst ds)) : eSlot i δ = .ok (.slot i) δ := by
  unfold eSlot; rw [h]
theorem slot_src {δ : DS} {i : Nat} {S : Src} (h : at? δ i = some (.src S)) : eSlot i δ = .ok (.slot i) δ := by
  unfold eSlot; rw [h]
/-- one drawn from a list made on the spot -/
theorem of_ok {δ : DS} {S : Src} {m : M Opd} {ds : List PyData} (h : at? δ 1 = some (.src S)) (hm : m δ = .ok (.val (.lst ds)) δ) (h1 : 1 ≤ ds.length) (h2 : ds.length < 1073741824) (hl : 1 < δ.length) : ∃ (S' : Src) (d : PyData), d ∈ ds ∧ eCall F__law_of (evs [(eSlot 1), m]) δ = .ok (.val (.dat d)) (δ.set 1 (some (.src S'))) := by
  obtain ⟨S', d, e, hd⟩ := of_lst S ds h1 h2
  refine ⟨S', d, hd, ?_⟩
  have e' : F__law_of [.src S, .lst ds] = .ret (.dat d) [.src S', .lst ds] := e
  have h0 : evs [(eSlot 1), m] δ = .ok [.slot 1, .val (.lst ds)] δ := by simp [evs, bnd, slot_src h, hm, Ev.ret]
  unfold eCall
  rw [bnd_ok h0]
  have h3 : lends [.slot 1, .val (.lst ds)] δ = .ok [.src S, .lst ds] (δ.set 1 none) := by simp [lends, lend, bnd, h, Ev.ret]
  unfold mCall
  rw [bnd_ok h3, e']
  simp [give]
theorem kept_ex : ∃ ds, F__law_kept [] = .ret (.lst ds) [] ∧ 1 ≤ ds.length ∧ ds.length < 1000 ∧ ∀ w ∈ ds, ∀ l ∈ lets, okR l (run1 l w) = true := by
  have h := chk2
  unfold keptOk at h
  split at h
  · rename_i ds e
    simp only [Bool.and_eq_true, decide_eq_true_eq, List.all_eq_true] at h
    exact ⟨ds, e, h.1.1, h.1.2, h.2⟩
  · cases h
theorem eLst4 {a b c d : M Opd} {d1 d2 d3 d4 : PyData} {δ δ' : DS} (h1 : a δ = .ok (.val (.dat d1)) δ) (h2 : b δ = .ok (.val (.dat d2)) δ) (h3 : c δ = .ok (.val (.dat d3)) δ) (h4 : d δ = .ok (.val (.dat d4)) δ') : eLst [(false, a), (false, b), (false, c), (false, d)] δ = .ok (.val (.lst [d1, d2, d3, d4])) δ' := by
  have e : 4 ≤ sizeLine := by rw [sizeLine_eq]; decide
  simp [eLst, evS, bnd, h1, h2, h3, h4, Ev.ret, takes, takeD, take, SV.data, e]
theorem it1_ok {s0 : SV} {l : Str} {δ : DS} {S : Src} (hl : l ∈ lets) (h : Inv s0 l δ) (h1 : at? δ 1 = some (.src S)) : ∃ (S' : Src) (ds : List PyData), it1 δ = .ok ds (δ.set 1 (some (.src S'))) ∧ ∀ d ∈ ds, okR l (run1 l d) = true := by
  obtain ⟨kw, ek, k1, k2, kk⟩ := kept_ex
  have hk : eCall F__law_kept (evs []) δ = .ok (.val (.lst kw)) δ := eCall_ok (ds := []) rfl ek
  obtain ⟨S', w, hw, ew⟩ := of_ok h1 hk k1 (by omega) (by rw [h.len]; decide)
  have hs := slot_dat h.a7
  have c1 := chk1
  simp only [List.all_eq_true] at c1
  have c2 := c1 l hl
  obtain ⟨a, b, ea, eb, hadd⟩ : ∃ a b, gCut none (some 1) (.str l) = some (.dat (.str a)) ∧ gRevX (.str l) = some (.dat (.str b)) ∧ gAdd (.str l) (.str a) = some (.dat (.str (l ++ a))) := by
    have hl' := hl
    simp only [lets, List.mem_cons, List.not_mem_nil, or_false] at hl'
    rcases hl' with rfl | rfl | rfl | rfl | rfl <;> exact ⟨_, _, rfl, rfl, cat_small (by decide +kernel)⟩
  have hA : addl l = [.str l, .str (l ++ a), .str b] := by unfold addl; rw [ea, eb]
  have e1 : (eOp (g2 (gBin .Add)) [(eSlot 7), (eCut (eSlot 7) none (some (eDat (.int 1))))]) δ = .ok (.val (.dat (.str (l ++ a)))) δ := by
    have ec : eCut (eSlot 7) none (some (eDat (.int 1))) δ = .ok (.val (.dat (.str a))) δ := by
      simp [eCut, bnd, hs, partM, intO, eDat, Ev.ret, Opd.data, SV.data, opN, datas, g1, ea]
    exact eOp2 (d := .str l) (d2 := .str a) hs ec rfl rfl hadd
  have e2 : (eOp (g1 gRevX) [(eSlot 7)]) δ = .ok (.val (.dat (.str b))) δ := eOp1 (d := .str l) hs rfl eb
  refine ⟨S', values ++ [.str l, .str (l ++ a), .str b, w], ?_, ?_⟩
  · have h8 : at? (δ.set 1 (some (.src S'))) 8 = some (.lst values) := by rw [at_set, if_neg (by omega)]; exact h.a8
    have e3 := eLst4 hs e1 e2 ew
    have e4 : (eOp (g2 (gBin .Add)) [(eSlot 8), (eLst [(false, (eSlot 7)), (false, (eOp (g2 (gBin .Add)) [(eSlot 7), (eCut (eSlot 7) none (some (eDat (.int 1))))])), (false, (eOp (g1 gRevX) [(eSlot 7)])), (false, (eCall F__law_of (evs [(eSlot 1), (eCall F__law_kept (evs []))])))])]) δ = .ok (.val (.lst (values ++ [.str l, .str (l ++ a), .str b, w]))) (δ.set 1 (some (.src S'))) :=
      eOp2 (d := .list values) (d2 := .list [.str l, .str (l ++ a), .str b, w]) (slot_lst h.a8) e3 (by show (at? (δ.set 1 (some (.src S'))) 8).bind SV.data = _; rw [h8]; rfl) rfl (by
        show gAdd (.list values) (.list [.str l, .str (l ++ a), .str b, w]) = _
        unfold gAdd
        simp only
        rw [if_pos (by rw [sizeLine_eq]; show 17 + 4 ≤ 16777216; decide)])
    show itE _ δ = _
    unfold itE
    rw [bnd_ok e4]
    rfl
  · intro d hd
    rcases List.mem_append.mp hd with hd | hd
    · exact c2 d (List.mem_append_left _ hd)
    · simp only [List.mem_cons, List.not_mem_nil, or_false] at hd
      rcases hd with rfl | rfl | rfl | rfl
      · exact c2 _ (List.mem_append_right _ (by rw [hA]; simp))
      · exact c2 _ (List.mem_append_right _ (by rw [hA]; simp))
      · exact c2 _ (List.mem_append_right _ (by rw [hA]; simp))
      · exact kk _ hw l hl
theorem Inv.le2 {s0 : SV} {l : Str} {δ : DS} (h : Inv s0 l δ) : Le [0] (bs s0) (dMin2 l) δ := by
  refine ⟨by rw [h.len]; rfl, fun i s e => ?_, fun i hi => ?_⟩
  · unfold dMin2 at e
    rw [at_set, at_set, at_nil] at e
    split at e
    · rename_i c; rw [← c.1, h.a8]; exact e
    · split at e
      · rename_i c; rw [← c.1, h.a7]; exact e
      · cases e
  · simp only [List.mem_singleton] at hi
    subst hi
    exact ⟨rfl, h.a0⟩
theorem part2 {s0 : SV} {l : Str} {δ : DS} (hl : l ∈ lets) (h : Inv s0 l δ) : ∃ δ', sSeq set13 for2 δ = .ok .nx δ' ∧ at? δ' 0 = some s0 := by
  have c1 := chk3
  simp only [List.all_eq_true] at c1
  obtain ⟨δ1, e1, _, _⟩ := okR_of (c1 l hl)
  obtain ⟨δ2, e2, hle⟩ := mo_ok (mo_sSeq mo_set13 mo_for2) h.le2 e1
  exact ⟨δ2, e2, (hle.pr 0 (by decide)).2⟩
theorem ax_fair : Fair "a(x0)" := ⟨by decide +kernel, by decide +kernel⟩
theorem ax_lx : Lx "a(x0)" 0 [tk "word" "a" 0, tk "sign" "(" 1, tk "word" "x0" 2, tk "sign" ")" 4] true 5 := by
  have w1 := Lx.word (z := "a(x0)") (p := 0) (c := 97) (q := 5) (r := [tk "sign" "(" 1, tk "word" "x0" 2, tk "sign" ")" 4]) (b := true) (by decide +kernel) (by decide +kernel) (by decide +kernel) (by decide) (by decide +kernel) (by decide +kernel)
  have w2 := Lx.sign (z := "a(x0)") (p := 1) (c := 40) (q := 5) (r := [tk "word" "x0" 2, tk "sign" ")" 4]) (b := true) (by decide +kernel) (by decide +kernel) (by decide +kernel)
  have w3 := Lx.word (z := "a(x0)") (p := 2) (c := 120) (q := 5) (r := [tk "sign" ")" 4]) (b := true) (by decide +kernel) (by decide +kernel) (by decide +kernel) (by decide) (by decide +kernel) (by decide +kernel)
  have w4 := Lx.sign (z := "a(x0)") (p := 4) (c := 41) (q := 5) (r := []) (b := true) (by decide +kernel) (by decide +kernel) (by decide +kernel)
  have e1 : runW "a(x0)" (0 + 1) = 1 := by decide +kernel
  have e2 : runW "a(x0)" (2 + 1) = 4 := by decide +kernel
  have s1 : cutN "a(x0)" 0 1 = "a" := by decide +kernel
  have s2 : cutN "a(x0)" 2 4 = "x0" := by decide +kernel
  have s3 : (⟨#[40]⟩ : Str) = "(" := by decide +kernel
  have s4 : (⟨#[41]⟩ : Str) = ")" := by decide +kernel
  have e5 : ("a(x0)" : Str).cps.toList.length = 5 := by decide +kernel
  rw [e1, s1] at w1
  rw [s3] at w2
  rw [e2, s2] at w3
  rw [s4] at w4
  have f : Lx "a(x0)" 5 [] true 5 := by have := Lx.fin (z := "a(x0)"); rwa [e5] at this
  exact w1 (w2 (w3 (w4 f)))
theorem last_ok (δ : DS) : last1 δ = .ok (.rt (.dat (.bool true))) δ := by
  have e := lexemes_ok ax_fair ax_lx (by decide)
  rw [if_pos rfl] at e
  have e1 : eCall F_lexemes (evs [(eDat (.str "a(x0)"))]) δ = .ok (.val (.lst [tk "word" "a" 0, tk "sign" "(" 1, tk "word" "x0" 2, tk "sign" ")" 4])) δ := eCall_ok (ds := [.str "a(x0)"]) rfl e
  have e2 : eOp (g2 gIdx) [(eCall F_lexemes (evs [(eDat (.str "a(x0)"))])), (eDat (.int 2))] δ = .ok (.val (.dat (tk "word" "x0" 2))) δ := eOp2 (d := .list [tk "word" "a" 0, tk "sign" "(" 1, tk "word" "x0" 2, tk "sign" ")" 4]) (d2 := .int 2) e1 (by rfl) (by rfl) (by rfl) (by rfl)
  have e3 : eTup [(false, (eDat (.str "word"))), (false, (eDat (.str "x0"))), (false, (eDat (.int 2)))] δ = .ok (.val (.dat (tk "word" "x0" 2))) δ := eTup3 (by rfl) (by rfl) (by rfl)
  exact sRet_ok (eOp2 (d := tk "word" "x0" 2) (d2 := tk "word" "x0" 2) e2 e3 (by rfl) (by rfl) (by
    show (eq? (tk "word" "x0" 2) (tk "word" "x0" 2)).map _ = _
    rw [eq_same _ (by decide +kernel) (by decide +kernel)]; rfl))
/-- from the letters on -/
theorem names_ok {s0 : SV} {δ : DS} {S : Src} (hlen : δ.length = 19) (h0 : at? δ 0 = some s0) (h1 : at? δ 1 = some (.src S)) :
    ∃ δ', (sSeq set7 (sSeq set8 (sSeq (sFor it1 (Ev.gName 9) body1) (sSeq set13 (sSeq for2 last1))))) δ = .ok (.rt (.dat (.bool true))) δ' ∧ at? δ' 0 = some s0 := by
  have hm : eLst [(false, (eDat (.str "a"))), (false, (eDat (.str "ab"))), (false, (eDat (.str "abc"))), (false, (eDat (.str "acdz"))), (false, (eDat (.str "xy")))] δ = .ok (.val (.lst [.str "a", .str "ab", .str "abc", .str "acdz", .str "xy"])) δ := rfl
  obtain ⟨S', d, hd, ed⟩ := of_ok h1 hm (by decide) (by decide) (by rw [hlen]; decide)
  obtain ⟨l, rfl, hl⟩ : ∃ l, d = .str l ∧ l ∈ lets := by
    simp only [List.mem_cons, List.not_mem_nil, or_false] at hd
    rcases hd with rfl | rfl | rfl | rfl | rfl <;> exact ⟨_, rfl, by simp [lets]⟩
  have a7 : set7 δ = .ok .nx ((δ.set 1 (some (.src S'))).set 7 (some (.dat (.str l)))) := sSet_ok (v := .dat (.str l)) ed (by unfold Ev.gName; rw [if_pos (by simp [hlen])])
  have a8 := set8_ok (δ := (δ.set 1 (some (.src S'))).set 7 (some (.dat (.str l)))) (by simp [hlen])
  have i1 : Inv s0 l (((δ.set 1 (some (.src S'))).set 7 (some (.dat (.str l)))).set 8 (some (.lst values))) :=
    ⟨by simp [hlen], by simp [at_set, hlen], by simp [at_set, hlen, h0], by simp [at_set, hlen]⟩
  obtain ⟨S2, ds, ei, hds⟩ := it1_ok (S := S') hl i1 (by simp [at_set, hlen])
  obtain ⟨δ3, e3, i3⟩ := for1 (s0 := s0) ds hds _ (show Inv s0 l ((((δ.set 1 (some (.src S'))).set 7 (some (.dat (.str l)))).set 8 (some (.lst values))).set 1 (some (.src S2))) from
    ⟨by simp [hlen], by simp [at_set, hlen], by simp [at_set, hlen, h0], by simp [at_set, hlen]⟩)
  obtain ⟨δ4, e4, h4⟩ := part2 hl i3
  refine ⟨δ4, ?_, h4⟩
  refine (sSeq_nx a7).trans ((sSeq_nx a8).trans ((sSeq_nx ((sFor_ok ei).trans e3)).trans ?_))
  have : sSeq set13 (sSeq for2 last1) δ3 = sSeq (sSeq set13 for2) last1 δ3 := by
    unfold sSeq bnd
    cases set13 δ3 with
    | bad => rfl
    | exn x δ => rfl
    | ok f δ => cases f <;> rfl
  rw [this]
  exact (sSeq_nx e4).trans (last_ok _)
end
end Lw

namespace Lw
noncomputable section
open PySem L2 Ev

theorem eq_strs (x : Str) : eq? (.str x) (.str x) = some true := by
  unfold eq?
  split
  · simp [PyData.eqv]
  · simp [strEq?]
structure Small (z : Str) : Prop where
  len : z.cps.toList.length ≤ 100
  ok : ∀ c ∈ z.cps.toList, c < 0x110000
theorem Small.fair {z : Str} (h : Small z) : Fair z := ⟨by rw [strLen]; have := h.len; omega, h.ok⟩
/-- a token's data -/
def TokD (d : PyData) : Prop := ∃ k t p, d = tk k t p ∧ Small k ∧ Small t ∧ p ≤ 100
theorem lit_small {k : Str} (h : k = "sign" ∨ k = "numeral" ∨ k = "word" ∨ k = "0") : Small k := by
  rcases h with rfl | rfl | rfl | rfl <;> exact ⟨by decide +kernel, by decide +kernel⟩
theorem cut_small {z : Str} (h : Small z) (p q : Nat) : Small (cutN z p q) := by
  refine ⟨?_, (cut_fair h.fair p q).ok⟩
  have := h.len
  simp [cutN]
  simp at this
  omega
theorem lx_toks {z : Str} (h : Small z) {p q : Nat} {r : List PyData} {b : Bool} (lx : Lx z p r b q) : (∀ d ∈ r, TokD d) ∧ q ≤ z.cps.toList.length := by
  have hz := h.len
  induction lx with
  | fin => exact ⟨by simp, Nat.le_refl _⟩
  | @bad p c hc _ _ _ _ _ => exact ⟨by simp, by have := (List.getElem?_eq_some_iff.mp hc).1; omega⟩
  | blank _ _ _ ih => exact ih
  | @sign p c q r b hc _ _ _ ih =>
    have hp := (List.getElem?_eq_some_iff.mp hc).1
    refine ⟨fun d hd => ?_, ih.2⟩
    rcases List.mem_cons.mp hd with rfl | hd
    · exact ⟨_, _, _, rfl, lit_small (by simp), ⟨by simp, fun c' hc' => by
        have : c' = c := by simpa using hc'
        subst this
        exact h.ok c' (List.mem_of_getElem? hc)⟩, by omega⟩
    · exact ih.1 d hd
  | @zero p q r b hc _ ih =>
    have hp := (List.getElem?_eq_some_iff.mp hc).1
    refine ⟨fun d hd => ?_, ih.2⟩
    rcases List.mem_cons.mp hd with rfl | hd
    · exact ⟨_, _, _, rfl, lit_small (by simp), lit_small (by simp), by omega⟩
    · exact ih.1 d hd
  | @num p c q r b hc _ _ _ _ _ ih =>
    have hp := (List.getElem?_eq_some_iff.mp hc).1
    refine ⟨fun d hd => ?_, ih.2⟩
    rcases List.mem_cons.mp hd with rfl | hd
    · exact ⟨_, _, _, rfl, lit_small (by simp), cut_small h _ _, by omega⟩
    · exact ih.1 d hd
  | @word p c q r b hc _ _ _ _ _ _ ih =>
    have hp := (List.getElem?_eq_some_iff.mp hc).1
    refine ⟨fun d hd => ?_, ih.2⟩
    rcases List.mem_cons.mp hd with rfl | hd
    · exact ⟨_, _, _, rfl, lit_small (by simp), cut_small h _ _, by omega⟩
    · exact ih.1 d hd
theorem int_small {p : Nat} (h : p ≤ 100) : PyData.weight (.int (p : Int)) ≤ 8 ∧ PyData.showable (.int (p : Int)) = true ∧ PyData.intsShort 13 (.int (p : Int)) = true := by
  have hl : (p : Int).natAbs.log2 < 8 := by
    by_cases h0 : p = 0
    · subst h0; decide
    · rw [Int.natAbs_natCast]
      exact (Nat.log2_lt h0).mpr (by omega)
  refine ⟨?_, ?_, ?_⟩
  · simp only [PyData.weight]
    split <;> omega
  · simp only [PyData.showable, decide_eq_true_eq]; omega
  · simp only [PyData.intsShort, decide_eq_true_eq]
    exact PyData.shown_int_le (by rw [Int.natAbs_natCast]; have : (100 : Nat) < 10 ^ 12 := by decide
                                  omega)
/-- data that shows well -/
structure Nice (n : Nat) (d : PyData) : Prop where
  lay : d.canLay0 = true
  sh : d.showable = true
  sho : d.intsShort 13 = true
  dep : d.depth ≤ n
theorem Small.nice {z : Str} (h : Small z) (n : Nat) : Nice n (.str z) := by
  refine ⟨?_, rfl, rfl, Nat.zero_le _⟩
  simp only [PyData.canLay0, PyData.strOk]
  rw [Array.all_eq_true_iff_forall_mem]
  intro c hc
  exact decide_eq_true (h.ok c (by simpa using hc))
theorem Small.weight {z : Str} (h : Small z) : PyData.weight (.str z) ≤ 100 := by
  have := h.len
  simp only [PyData.weight]
  simpa using this
theorem tok_nice {d : PyData} (h : TokD d) : Nice 1 d ∧ d.weight ≤ 300 := by
  obtain ⟨k, t, p, rfl, hk, ht, hp⟩ := h
  obtain ⟨i1, i2, i3⟩ := int_small hp
  have k1 := hk.nice 0
  have t1 := ht.nice 0
  have w1 := hk.weight
  have w2 := ht.weight
  refine ⟨⟨?_, ?_, ?_, ?_⟩, ?_⟩
  · simp only [tk, PyData.canLay0, PyData.canLayAll0, Bool.and_true] at k1 t1 ⊢
    have a := k1.lay; have b := t1.lay
    simp only [PyData.canLay0] at a b
    rw [a, b]; rfl
  · simp only [tk, PyData.showable, PyData.showableAll, Bool.and_true, Bool.true_and] at i2 ⊢
    exact i2
  · simp only [tk, PyData.intsShort, PyData.intsShortAll, Bool.and_true, Bool.true_and] at i3 ⊢
    exact i3
  · simp [tk, PyData.depth, PyData.depthAll]
  · simp only [tk, PyData.weight, PyData.weightAll] at w1 w2 i1 ⊢
    omega
theorem toks_nice : ∀ {r : List PyData}, (∀ d ∈ r, TokD d) → PyData.canLayAll0 r = true ∧ PyData.showableAll r = true ∧ PyData.intsShortAll 13 r = true ∧ PyData.depthAll r ≤ 1 ∧ PyData.weightAll r ≤ 301 * r.length
  | [], _ => ⟨rfl, rfl, rfl, Nat.zero_le _, by simp [PyData.weightAll]⟩
  | d :: r, h => by
    obtain ⟨a, w⟩ := tok_nice (h d (by simp))
    obtain ⟨b1, b2, b3, b4, b5⟩ := toks_nice fun x hx => h x (List.mem_cons_of_mem _ hx)
    have hd := a.dep
    refine ⟨by simp [PyData.canLayAll0, a.lay, b1], by simp [PyData.showableAll, a.sh, b2], by simp [PyData.intsShortAll, a.sho, b3], by simp only [PyData.depthAll]; omega, ?_⟩
    simp only [PyData.weightAll, List.length_cons]
    omega
theorem repr_ok {n : Nat} {d : PyData} (h : Nice n d) (hn : n ≤ 64) (hw : d.weight ≤ 2 ^ 20) : gRepr d = some (.dat (.str d.shown)) := by
  have hd : d.depth ≤ 64 := Nat.le_trans h.dep hn
  have hl : PyData.layable0 d = true := by
    unfold PyData.layable0
    rw [h.lay, decide_eq_true hd, decide_eq_true hw]; rfl
  have := PyProof.Rows.shown_le13 hl h.sho
  unfold gRepr
  rw [h.lay, h.sh, decide_eq_true hd, decide_eq_true (show d.shown.length ≤ sizeLine by rw [sizeLine_eq]; omega)]
  rfl
theorem told_repr {z : Str} (h : Small z) {p q : Nat} {r : List PyData} {b : Bool} (lx : Lx z p r b q) (hr : r.length ≤ 200) : gRepr (told r b q) = some (.dat (.str (told r b q).shown)) := by
  obtain ⟨ht, hq⟩ := lx_toks h lx
  have hz := h.len
  obtain ⟨b1, b2, b3, b4, b5⟩ := toks_nice ht
  obtain ⟨i1, i2, i3⟩ := int_small (p := q) (by omega)
  have s1 : PyData.strOk "told" = true := by decide +kernel
  have s2 : PyData.strOk "refused" = true := by decide +kernel
  have w1 : ("told" : Str).cps.size = 4 := by decide +kernel
  have w2 : ("refused" : Str).cps.size = 7 := by decide +kernel
  have e20 : (2 : Nat) ^ 20 = 1048576 := by decide
  unfold told
  cases b with
  | true =>
    rw [if_pos rfl]
    refine repr_ok (n := 3) ⟨?_, ?_, ?_, ?_⟩ (by decide) ?_
    · simp [PyData.canLay0, PyData.canLayAll0, s1, b1]
    · simp [PyData.showable, PyData.showableAll, b2]
    · simp [PyData.intsShort, PyData.intsShortAll, b3]
    · simp only [PyData.depth, PyData.depthAll]; omega
    · simp only [PyData.weight, PyData.weightAll, w1]; omega
  | false =>
    rw [if_neg (by decide)]
    refine repr_ok (n := 3) ⟨?_, ?_, ?_, ?_⟩ (by decide) ?_
    · simp [PyData.canLay0, PyData.canLayAll0, s2]
    · simp only [PyData.showable, PyData.showableAll, Bool.and_true, Bool.true_and] at i2 ⊢; exact i2
    · simp only [PyData.intsShort, PyData.intsShortAll, Bool.and_true, Bool.true_and] at i3 ⊢; exact i3
    · simp only [PyData.depth, PyData.depthAll]; omega
    · have i1' := i1
      simp only [PyData.weight] at i1'
      simp only [PyData.weight, PyData.weightAll, w2]; omega
end
end Lw

namespace Lw
noncomputable section
open PySem L2 Ev
def q3 : M Flw := (sSet (Ev.gName 3) (eLst [(false, (eDat (.str "a"))), (false, (eDat (.str "ab"))), (false, (eDat (.str "X"))), (false, (eDat (.str "Xs1"))), (false, (eDat (.str "x0"))), (false, (eDat (.str "some"))), (false, (eDat (.str "not"))), (false, (eDat (.str "007"))), (false, (eDat (.str "12"))), (false, (eDat (.str "0"))), (false, (eDat (.str "("))), (false, (eDat (.str ")"))), (false, (eDat (.str ","))), (false, (eDat (.str ":"))), (false, (eDat (.str ";"))), (false, (eDat (.str " "))), (false, (eDat (.str "\n"))), (false, (eDat (.str "z9Q")))]))
def q4 : M Flw := (sSet (Ev.gName 4) (eMt "str" gJoin (eDat (.str "")) (evs [(eComp (itRng1 (eCall F__law_pick (evs [(eSlot 1), (eDat (.int 12))]))) (Ev.gName 5) (Ev.ret true) (eCall F__law_of (evs [(eSlot 1), (eSlot 3)])) [5])])))
def q5 : M Flw := (mIf (tOf (eOp (gB2 (gCmp .Eq)) [(eCall F__law_pick (evs [(eSlot 1), (eDat (.int 3))])), (eDat (.int 0))]))
 (sSeq (sSet (Ev.gName 5) (eCall F__law_pick (evs [(eSlot 1), (eOp (g2 (gBin .Add)) [(eOp (g1 gLen) [(eSlot 4)]), (eDat (.int 1))])])))
 (sSet (Ev.gName 4) (eOp (g2 (gBin .Add)) [(eOp (g2 (gBin .Add)) [(eCut (eSlot 4) none (some (eSlot 5))), (eCall F__law_of (evs [(eSlot 1), (eLst [(false, (eDat (.str "?"))), (false, (eDat (.str "."))), (false, (eDat (.str "\t"))), (false, (eDat (.str "-"))), (false, (eDat (.str "_"))), (false, (eDat (.str "=")))])]))]), (eCut (eSlot 4) (some (eSlot 5)) none)])))
 (Ev.ret .nx))
def q6 : M Flw := (sSet (Ev.gName 6) (eCall F__law_lexemes (evs [(eSlot 4)])))
def q7 : M Flw := (sSet (Ev.gName 6) (mIf (tOf (eOp (gB2 (gCmp .Eq)) [(eOp (g2 gIdx) [(eOp (g2 gIdx) [(eSlot 6), (eOp (g1 (gUn .USub)) [(eDat (.int 1))])]), (eDat (.int 0))]), (eDat (.str "end"))])) (eTup [(false, (eDat (.str "told"))), (false, (eCut (eSlot 6) none (some (eOp (g1 (gUn .USub)) [(eDat (.int 1))]))))]) (eTup [(false, (eDat (.str "refused"))), (false, (eOp (g2 gIdx) [(eOp (g2 gIdx) [(eSlot 6), (eOp (g1 (gUn .USub)) [(eDat (.int 1))])]), (eDat (.int 2))]))])))
def q8 : M Flw := (mIf (tOf (eOp (gB2 (gCmp .NotEq)) [(eOp (g1 gRepr) [(eCall F__law_told_lexemes (evs [(eSlot 4)]))]), (eOp (g1 gRepr) [(eSlot 6)])]))
 (sRet 1 (eDat (.bool false)))
 (Ev.ret .nx))
theorem for0_is : for0 = sFor (itRng1 (eDat (.int 8))) (Ev.gName 2) (sSeq q3 (sSeq q4 (sSeq q5 (sSeq q6 (sSeq q7 q8))))) := rfl
def piecesS : List Str := ["a", "ab", "X", "Xs1", "x0", "some", "not", "007", "12", "0", "(", ")", ",", ":", ";", " ", "\n", "z9Q"]
def pieces : List PyData := piecesS.map PyData.str
structure Ch (is : List Nat) (δ δ' : DS) : Prop where
  len : δ'.length = δ.length
  at_ : ∀ i, i ∉ is → at? δ' i = at? δ i
theorem Ch.refl (is : List Nat) (δ : DS) : Ch is δ δ := ⟨rfl, fun _ _ => rfl⟩
theorem Ch.trans {is : List Nat} {a b c : DS} (h : Ch is a b) (k : Ch is b c) : Ch is a c := ⟨k.len.trans h.len, fun i n => (k.at_ i n).trans (h.at_ i n)⟩
theorem Ch.mono {is js : List Nat} {a b : DS} (h : Ch is a b) (m : ∀ i ∈ is, i ∈ js) : Ch js a b := ⟨h.len, fun i n => h.at_ i fun q => n (m i q)⟩
theorem Ch.set (δ : DS) (i : Nat) (o : Option SV) : Ch [i] δ (δ.set i o) := ⟨by simp, fun j n => by rw [at_set, if_neg fun c => n (by simp [c.1])]⟩
theorem pick_call {δ : DS} {S : Src} {m : M Opd} {k : Int} (h : at? δ 1 = some (.src S)) (hm : m δ = .ok (.val (.dat (.int k))) δ) (h1 : 1 ≤ k) (h2 : k < 1073741824) (hl : 1 < δ.length) : ∃ (S' : Src) (i : Int) (δ' : DS), eCall F__law_pick (evs [(eSlot 1), m]) δ = .ok (.val (.dat (.int i))) δ' ∧ 0 ≤ i ∧ i < k ∧ Ch [1] δ δ' ∧ at? δ' 1 = some (.src S') := by
  obtain ⟨S', i, e, i0, i1⟩ := pick_ok S k h1 h2
  have e' : F__law_pick [.src S, .dat (.int k)] = .ret (.dat (.int i)) [.src S', .dat (.int k)] := e
  have h0 : evs [(eSlot 1), m] δ = .ok [.slot 1, .val (.dat (.int k))] δ := by simp [evs, bnd, slot_src h, hm, Ev.ret]
  have h3 : lends [.slot 1, .val (.dat (.int k))] δ = .ok [.src S, .dat (.int k)] (δ.set 1 none) := by simp [lends, lend, bnd, h, Ev.ret]
  refine ⟨S', i, δ.set 1 (some (.src S')), ?_, i0, i1, Ch.set _ _ _, by rw [at_set, if_pos ⟨rfl, hl⟩]⟩
  unfold eCall
  rw [bnd_ok h0]
  unfold mCall
  rw [bnd_ok h3, e']
  simp [give]
theorem of_slot {δ : DS} {S : Src} {ds : List PyData} (h : at? δ 1 = some (.src S)) (hd : at? δ 3 = some (.lst ds)) (h1 : 1 ≤ ds.length) (h2 : ds.length < 1073741824) (hl : 3 < δ.length) : ∃ (S' : Src) (d : PyData) (δ' : DS), eCall F__law_of (evs [(eSlot 1), (eSlot 3)]) δ = .ok (.val (.dat d)) δ' ∧ d ∈ ds ∧ Ch [1] δ δ' ∧ at? δ' 1 = some (.src S') := by
  obtain ⟨S', d, e, hm⟩ := of_lst S ds h1 h2
  have e' : F__law_of [.src S, .lst ds] = .ret (.dat d) [.src S', .lst ds] := e
  have h0 : evs [(eSlot 1), (eSlot 3)] δ = .ok [.slot 1, .slot 3] δ := by simp [evs, bnd, slot_src h, slot_lst hd, Ev.ret]
  have hd' : at? (δ.set 1 none) 3 = some (.lst ds) := by rw [at_set, if_neg (by omega)]; exact hd
  have h3 : lends [.slot 1, .slot 3] δ = .ok [.src S, .lst ds] ((δ.set 1 none).set 3 none) := by simp [lends, lend, bnd, h, hd', Ev.ret]
  refine ⟨S', d, (((δ.set 1 none).set 3 none).set 1 (some (.src S'))).set 3 (some (.lst ds)), ?_, hm, ⟨by simp, fun i n => ?_⟩, ?_⟩
  · unfold eCall
    rw [bnd_ok h0]
    unfold mCall
    rw [bnd_ok h3, e']
    simp [give]
  · have n1 : ¬ 1 = i := fun q => n (by simp [q])
    by_cases q : 3 = i
    · subst q
      rw [at_set, if_pos ⟨rfl, by simpa using hl⟩]; exact hd.symm
    · rw [at_set, if_neg fun c => q c.1, at_set, if_neg fun c => n1 c.1, at_set, if_neg fun c => q c.1, at_set, if_neg fun c => n1 c.1]
  · rw [at_set, if_neg (by omega), at_set, if_pos ⟨rfl, by simp; omega⟩]
theorem drawn : ∀ (ds : List PyData) (acc : List Str) (δ : DS) (S : Src), δ.length = 19 → at? δ 3 = some (.lst pieces) → at? δ 1 = some (.src S) → acc.length + ds.length ≤ 100 → (∀ x ∈ acc, x ∈ piecesS) →
    ∃ (acc' : List Str) (δ' : DS) (S' : Src), compM (Ev.gName 5) (Ev.ret true) (eCall F__law_of (evs [(eSlot 1), (eSlot 3)])) [5] ds (acc.map PyData.str) δ = .ok (acc'.map PyData.str) δ' ∧ acc'.length = acc.length + ds.length ∧ (∀ x ∈ acc', x ∈ piecesS) ∧ Ch [1, 5] δ δ' ∧ at? δ' 1 = some (.src S')
  | [], acc, δ, S, _, _, h1, _, hA => ⟨acc, δ, S, rfl, rfl, hA, Ch.refl _ _, h1⟩
  | d :: ds, acc, δ, S, hl, h3, h1, hn, hA => by
    have c1 : Ch [1, 5] δ ((δ.set 5 none).set 5 (some (.dat d))) := ((Ch.set δ 5 none).trans (Ch.set _ 5 _)).mono (by simp)
    have g3 : at? ((δ.set 5 none).set 5 (some (.dat d))) 3 = some (.lst pieces) := by rw [c1.at_ 3 (by simp)]; exact h3
    have g1 : at? ((δ.set 5 none).set 5 (some (.dat d))) 1 = some (.src S) := by rw [at_set, if_neg (by omega), at_set, if_neg (by omega)]; exact h1
    obtain ⟨S1, y, δ1, e1, hy, ch, k1⟩ := of_slot g1 g3 (by decide +kernel) (by decide +kernel) (by simp [hl])
    obtain ⟨t, ht, rfl⟩ := List.mem_map.mp hy
    have l1 : δ1.length = 19 := by rw [ch.len]; simp [hl]
    simp only [List.length_cons] at hn
    obtain ⟨acc', δ2, S2, e2, n2, a2, ch2, k2⟩ := drawn ds (acc ++ [t]) δ1 S1 l1 (by rw [ch.at_ 3 (by simp)]; exact g3) k1 (by simp; omega) (fun x hx => by
      rcases List.mem_append.mp hx with hx | hx
      · exact hA x hx
      · simp at hx; subst hx; exact ht)
    refine ⟨acc', δ2, S2, ?_, by simp at n2 ⊢; omega, a2, c1.trans ((ch.mono (by simp)).trans ch2), k2⟩
    unfold compM
    have w : bnd (fun δ => R.ok () (wipeD [5] δ)) (fun _ => bnd (asg (Ev.gName 5) (.dat d)) fun _ => bnd (Ev.ret true) fun c => if c then bnd (eCall F__law_of (evs [(eSlot 1), (eSlot 3)])) fun o => bnd (takeD o) fun y => if (acc.map PyData.str).length < sizeLine then compM (Ev.gName 5) (Ev.ret true) (eCall F__law_of (evs [(eSlot 1), (eSlot 3)])) [5] ds (acc.map PyData.str ++ [y]) else stuck else compM (Ev.gName 5) (Ev.ret true) (eCall F__law_of (evs [(eSlot 1), (eSlot 3)])) [5] ds (acc.map PyData.str)) δ = .ok (acc'.map PyData.str) δ2 := by
      refine (bnd_ok (m := fun δ => R.ok () (wipeD [5] δ)) (δ := δ) (y := ()) (δ' := δ.set 5 none) rfl).trans ?_
      refine (bnd_ok (m := asg (Ev.gName 5) (.dat d)) (y := ()) (δ' := (δ.set 5 none).set 5 (some (.dat d))) (by unfold asg Ev.gName; simp [hl])).trans ?_
      refine (bnd_ok (m := Ev.ret true) (y := true) (δ' := (δ.set 5 none).set 5 (some (.dat d))) rfl).trans ?_
      simp only [if_true]
      refine (bnd_ok e1).trans ?_
      refine (bnd_ok (m := takeD (Opd.val (.dat (.str t)))) (y := .str t) (δ' := δ1) rfl).trans ?_
      rw [if_pos (by rw [sizeLine_eq]; simp; omega)]
      simpa using e2
    exact w
theorem rng_len (j : Int) : (rng 0 j).length = j.toNat := by simp [rng]
def Txt_ (n : Nat) (z : Str) : Prop := z.cps.toList.length ≤ n ∧ ∀ c ∈ z.cps.toList, c < 0x110000
theorem pieces_txt : ∀ x ∈ piecesS, Txt_ 4 x := by
  have h : (piecesS.all fun x => decide (x.cps.toList.length ≤ 4) && x.cps.toList.all fun c => decide (c < 0x110000)) = true := by decide +kernel
  intro x hx
  have := (List.all_eq_true.mp h) x hx
  simp only [Bool.and_eq_true, decide_eq_true_eq, List.all_eq_true] at this
  exact this
theorem join_txt0 : ∀ ts : List Str, (∀ x ∈ ts, Txt_ 4 x) → Txt_ (4 * ts.length) (Str.join "" ts)
  | [], _ => by
    refine ⟨by decide, fun c hc => ?_⟩
    have : (Str.join "" []).cps.toList = [] := by decide
    rw [this] at hc; cases hc
  | [x], h => ⟨(h x (by simp)).1, (h x (by simp)).2⟩
  | x :: y :: r, h => by
    have ih := join_txt0 (y :: r) fun z hz => h z (List.mem_cons_of_mem _ hz)
    have hx := h x (by simp)
    have e : (Str.join "" (x :: y :: r)).cps.toList = x.cps.toList ++ (Str.join "" (y :: r)).cps.toList := by
      rw [PyProof.Rows.join_cons_cons, PyProof.Rows.cps_toList_append, PyProof.Rows.cps_toList_append]
      have : ("" : Str).cps.toList = [] := by decide
      rw [this, List.append_nil]
    refine ⟨?_, fun c hc => ?_⟩
    · rw [e, List.length_append]
      have := ih.1
      have := hx.1
      simp only [List.length_cons] at *
      omega
    · rw [e] at hc
      rcases List.mem_append.mp hc with q | q
      · exact hx.2 c q
      · exact ih.2 c q
theorem join_txt (ts : List Str) (h : ∀ x ∈ ts, Txt_ 4 x) : Txt_ (4 * ts.length) (Txt.join "" ts) := by
  have e : Txt.join "" ts = Str.join "" ts := eq_of_beq (PyProof.Rows.join_closes rfl)
  rw [e]
  exact join_txt0 ts h
end
end Lw

namespace Lw
noncomputable section
open PySem L2 Ev

theorem eMt1 {T : String} {f : List PyData → Option SV} {mo : M Opd} {m : M Opd} {d d2 : PyData} {s r : SV} {δ δ' : DS} (h : mo δ = .ok (.val (.dat d)) δ) (ht : tyN d = T) (hm : m δ = .ok (.val s) δ') (hs : s.data = some d2) (hf : f [d, d2] = some r) : eMt T f mo (evs [m]) δ = .ok (.val r) δ' := by
  have e : evs [m] δ = .ok [.val s] δ' := by simp [evs, bnd, hm, Ev.ret]
  unfold eMt
  rw [bnd_ok h]
  show (match (some d : Option PyData) with
    | some d => if tyN d = T then bnd (evs [m]) (fun os => opN f (Opd.val (.dat d) :: os)) δ else .bad
    | none => .bad) = _
  simp only [if_pos ht]
  rw [bnd_ok e]
  simp [opN, datas, Opd.data, hs, show SV.data (.dat d) = some d from rfl, hf]
theorem txts_map : ∀ l : List Str, txts (l.map PyData.str) = some l
  | [] => rfl
  | x :: l => by simp [txts, txts_map l]
theorem sum4 : ∀ l : List Str, (∀ x ∈ l, Txt_ 4 x) → (l.map (·.length)).sum ≤ 4 * l.length
  | [], _ => by simp
  | x :: l, h => by
    have a := (h x (by simp)).1
    have b := sum4 l fun y hy => h y (List.mem_cons_of_mem _ hy)
    rw [← strLen] at a
    simp only [List.map_cons, List.sum_cons, List.length_cons]
    omega
theorem tOf_ok {m : M Opd} {b : Bool} {δ δ' : DS} (h : m δ = .ok (.val (.dat (.bool b))) δ') : tOf m δ = .ok b δ' := by
  unfold tOf
  rw [bnd_ok h]; rfl
theorem set_ok {δ δ1 : DS} {i : Nat} {m : M Opd} {v : SV} (h : m δ = .ok (.val v) δ1) (hi : i < δ1.length) : sSet (Ev.gName i) m δ = .ok .nx (δ1.set i (some v)) := sSet_ok h (by unfold Ev.gName; rw [if_pos hi])
theorem at_self {δ : DS} {i : Nat} {o : Option SV} (h : i < δ.length) : at? (δ.set i o) i = o := by rw [at_set, if_pos ⟨rfl, h⟩]
theorem at_ne {δ : DS} {i j : Nat} {o : Option SV} (h : i ≠ j) : at? (δ.set i o) j = at? δ j := by rw [at_set, if_neg fun c => h c.1]
theorem q3_ok {δ : DS} (h : δ.length = 19) : q3 δ = .ok .nx (δ.set 3 (some (.lst pieces))) := set_ok (v := .lst pieces) (δ1 := δ) rfl (by omega)
theorem q4_ok {δ : DS} {S : Src} (h : δ.length = 19) (h1 : at? δ 1 = some (.src S)) (h3 : at? δ 3 = some (.lst pieces)) : ∃ (z : Str) (δ' : DS) (S' : Src), q4 δ = .ok .nx δ' ∧ Txt_ 44 z ∧ at? δ' 4 = some (.dat (.str z)) ∧ Ch [1, 4, 5] δ δ' ∧ at? δ' 1 = some (.src S') := by
  obtain ⟨S1, i, δ1, e1, i0, i1, c1, g1⟩ := pick_call h1 (m := eDat (.int 12)) (k := 12) rfl (by decide) (by decide) (by omega)
  have l1 : δ1.length = 19 := by rw [c1.len, h]
  have hr : (rng 0 i).length ≤ 11 := by rw [rng_len]; omega
  obtain ⟨acc, δ2, S2, e2, n2, a2, c2, g2⟩ := drawn (rng 0 i) [] δ1 S1 l1 (by rw [c1.at_ 3 (by simp)]; exact h3) g1 (by simp; omega) (by simp)
  have hit : itRng1 (eCall F__law_pick (evs [(eSlot 1), (eDat (.int 12))])) δ = .ok (rng 0 i) δ1 := by
    unfold itRng1
    rw [bnd_ok e1]
    show (if -(2 ^ 62) ≤ i ∧ i < 2 ^ 62 then R.ok (rng 0 i) δ1 else .bad) = _
    rw [if_pos (by omega)]
  have ec := eComp_ok hit e2
  have ha := fun x hx => pieces_txt x (a2 x hx)
  have hj := join_txt acc ha
  have hn : acc.length ≤ 11 := by simp at n2; omega
  have hs := sum4 acc ha
  have ej : gJoin [.str "", .list (acc.map PyData.str)] = some (.dat (.str (Txt.join "" acc))) := by
    unfold gJoin
    simp only [txts_map]
    rw [if_pos (by have : ("" : Str).length = 0 := by decide
                   rw [this]; omega)]
  have em := eMt1 (T := "str") (mo := eDat (.str "")) (d := .str "") (δ := δ) rfl rfl ec rfl ej
  have l2 : δ2.length = 19 := by rw [c2.len, l1]
  refine ⟨Txt.join "" acc, _, S2, set_ok em (by simp [backD, l2]), ⟨by have := hj.1; omega, hj.2⟩, at_self (by simp [backD, l2]), ?_, ?_⟩
  · refine ((c1.mono (by simp)).trans ((c2.mono (by simp)).trans ?_))
    exact ((Ch.set δ2 5 _).mono (by simp)).trans ((Ch.set _ 4 _).mono (by simp))
  · rw [at_ne (by decide)]
    show at? (δ2.set 5 _) 1 = _
    rw [at_ne (by decide)]; exact g2
theorem txt_fair {z : Str} {n : Nat} (h : Txt_ n z) (hn : n ≤ 100) : Small z := ⟨by have := h.1; omega, h.2⟩
theorem cutTo {z : Str} {n : Nat} (h : Txt_ n z) (hn : n ≤ 100) (i : Int) (h0 : 0 ≤ i) (h1 : i ≤ z.cps.toList.length) : ∃ a b : Str, gCut none (some i) (.str z) = some (.dat (.str a)) ∧ gCut (some i) none (.str z) = some (.dat (.str b)) ∧ a.cps.toList.length + b.cps.toList.length ≤ n ∧ (∀ c ∈ a.cps.toList, c < 0x110000) ∧ ∀ c ∈ b.cps.toList, c < 0x110000 := by
  have hf := (txt_fair h hn).fair.line
  obtain ⟨k, rfl⟩ := Int.eq_ofNat_of_zero_le h0
  have hk : k ≤ z.cps.toList.length := by omega
  refine ⟨⟨(z.cps.toList.take k).toArray⟩, ⟨(z.cps.toList.drop k).toArray⟩, ?_, ?_, ?_, ?_, ?_⟩
  · unfold gCut
    simp only [if_pos hf, cutS, HT.sIx_none, HT.sIx_nat]
    rw [strLen, Nat.min_eq_left hk]
    simp
  · unfold gCut
    simp only [if_pos hf, cutS, HT.sIx_none, HT.sIx_nat]
    rw [strLen, Nat.min_eq_left hk]
    rw [List.take_of_length_le (by simp)]
  · have := h.1
    simp at this ⊢
    simp at hk
    omega
  · intro c hc; exact h.2 c (List.mem_of_mem_take (by simpa using hc))
  · intro c hc; exact h.2 c (List.mem_of_mem_drop (by simpa using hc))
theorem q5_ok {δ : DS} {S : Src} {z : Str} (h : δ.length = 19) (h1 : at? δ 1 = some (.src S)) (h4 : at? δ 4 = some (.dat (.str z))) (hz : Txt_ 44 z) : ∃ (z' : Str) (δ' : DS) (S' : Src), q5 δ = .ok .nx δ' ∧ Txt_ 45 z' ∧ at? δ' 4 = some (.dat (.str z')) ∧ Ch [1, 4, 5] δ δ' ∧ at? δ' 1 = some (.src S') := by
  obtain ⟨S1, i, δ1, e1, i0, i1, c1, y1⟩ := pick_call h1 (m := eDat (.int 3)) (k := 3) rfl (by decide) (by decide) (by omega)
  have l1 : δ1.length = 19 := by rw [c1.len, h]
  have k4 : at? δ1 4 = some (.dat (.str z)) := by rw [c1.at_ 4 (by simp)]; exact h4
  have t1 : (tOf (eOp (gB2 (gCmp .Eq)) [(eCall F__law_pick (evs [(eSlot 1), (eDat (.int 3))])), (eDat (.int 0))])) δ = .ok (decide (i = 0)) δ1 := by
    have : eOp (gB2 (gCmp .Eq)) [(eCall F__law_pick (evs [(eSlot 1), (eDat (.int 3))])), (eDat (.int 0))] δ = .ok (.val (.dat (.bool (decide (i = 0))))) δ1 := eOp2 (d := .int i) (d2 := .int 0) e1 rfl rfl rfl (by simp [gB2, gCmp, eq_int])
    unfold tOf
    rw [bnd_ok this]; rfl
  by_cases hi : i = 0
  · rw [decide_eq_true hi] at t1
    have hfz := (txt_fair hz (by decide)).fair
    have hlen := len_of hfz
    have m1 : (eOp (g2 (gBin .Add)) [(eOp (g1 gLen) [(eSlot 4)]), (eDat (.int 1))]) δ1 = .ok (.val (.dat (.int ((z.cps.toList.length : Nat) + 1)))) δ1 := eOp2 (d := .int (z.cps.toList.length : Nat)) (d2 := .int 1) (eOp1 (d := .str z) (slot_dat k4) rfl hlen) rfl rfl rfl rfl
    have hz1 := hz.1
    obtain ⟨S2, j, δ2, e2, j0, j1, c2, y2⟩ := pick_call y1 m1 (by omega) (by omega) (by omega)
    have l2 : δ2.length = 19 := by rw [c2.len, l1]
    have w4 : at? (δ2.set 5 (some (.dat (.int j)))) 4 = some (.dat (.str z)) := by rw [at_ne (by decide), c2.at_ 4 (by simp)]; exact k4
    have w5 : at? (δ2.set 5 (some (.dat (.int j)))) 5 = some (.dat (.int j)) := at_self (by omega)
    have w1 : at? (δ2.set 5 (some (.dat (.int j)))) 1 = some (.src S2) := by rw [at_ne (by decide)]; exact y2
    have hw : eLst [(false, (eDat (.str "?"))), (false, (eDat (.str "."))), (false, (eDat (.str "\t"))), (false, (eDat (.str "-"))), (false, (eDat (.str "_"))), (false, (eDat (.str "=")))] (δ2.set 5 (some (.dat (.int j)))) = .ok (.val (.lst [.str "?", .str ".", .str "\t", .str "-", .str "_", .str "="])) (δ2.set 5 (some (.dat (.int j)))) := rfl
    obtain ⟨S3, d, hd, e3⟩ := of_ok w1 hw (by decide) (by decide) (by simp; omega)
    obtain ⟨w, rfl, hwt⟩ : ∃ w, d = .str w ∧ Txt_ 1 w := by
      simp only [List.mem_cons, List.not_mem_nil, or_false] at hd
      rcases hd with rfl | rfl | rfl | rfl | rfl | rfl <;> exact ⟨_, rfl, by unfold Txt_; decide +kernel⟩
    obtain ⟨a, b, ea, eb, hab, ha, hb⟩ := cutTo hz (by decide) j j0 (by omega)
    have p1 : eCut (eSlot 4) none (some (eSlot 5)) (δ2.set 5 (some (.dat (.int j)))) = .ok (.val (.dat (.str a))) (δ2.set 5 (some (.dat (.int j)))) := by
      simp [eCut, bnd, slot_dat w4, slot_dat w5, partM, intO, Ev.ret, Opd.data, SV.data, opN, datas, g1, ea]
    have v4 : at? ((δ2.set 5 (some (.dat (.int j)))).set 1 (some (.src S3))) 4 = some (.dat (.str z)) := by rw [at_ne (by decide)]; exact w4
    have v5 : at? ((δ2.set 5 (some (.dat (.int j)))).set 1 (some (.src S3))) 5 = some (.dat (.int j)) := by rw [at_ne (by decide)]; exact w5
    have p2 : eCut (eSlot 4) (some (eSlot 5)) none ((δ2.set 5 (some (.dat (.int j)))).set 1 (some (.src S3))) = .ok (.val (.dat (.str b))) ((δ2.set 5 (some (.dat (.int j)))).set 1 (some (.src S3))) := by
      simp [eCut, bnd, slot_dat v4, slot_dat v5, partM, intO, Ev.ret, Opd.data, SV.data, opN, datas, g1, eb]
    have hw1 := hwt.1
    have hl1 : (a ++ w).cps.toList.length = a.cps.toList.length + w.cps.toList.length := by rw [PyProof.Rows.cps_toList_append, List.length_append]
    have hl2 : (a ++ w ++ b).cps.toList.length = a.cps.toList.length + w.cps.toList.length + b.cps.toList.length := by rw [PyProof.Rows.cps_toList_append, List.length_append, hl1]
    have p3 := eOp2 (f := g2 (gBin .Add)) (d := .str a) (d2 := .str w) (s := .dat (.str (a ++ w))) p1 e3 rfl rfl (cat_small (by rw [strLen a, strLen w]; omega))
    have p4 := eOp2 (f := g2 (gBin .Add)) (d := .str (a ++ w)) (d2 := .str b) (s := .dat (.str (a ++ w ++ b))) p3 p2 rfl rfl (cat_small (by rw [strLen (a ++ w), strLen b, hl1]; omega))
    refine ⟨a ++ w ++ b, _, S3, (mIf_t t1).trans ((sSeq_nx (set_ok e2 (by omega))).trans (set_ok p4 (by simp; omega))), ⟨by omega, fun c hc => ?_⟩, at_self (by simp; omega), ?_, ?_⟩
    · rw [PyProof.Rows.cps_toList_append, PyProof.Rows.cps_toList_append] at hc
      rcases List.mem_append.mp hc with hc | hc
      · rcases List.mem_append.mp hc with hc | hc
        · exact ha c hc
        · exact hwt.2 c hc
      · exact hb c hc
    · exact (c1.mono (by simp)).trans ((c2.mono (by simp)).trans (((Ch.set δ2 5 _).mono (by simp)).trans (((Ch.set _ 1 _).mono (by simp)).trans ((Ch.set _ 4 _).mono (by simp)))))
    · rw [at_ne (by decide), at_self (by simp; omega)]
  · rw [decide_eq_false hi] at t1
    exact ⟨z, δ1, S1, (mIf_f t1).trans rfl, ⟨by have := hz.1; omega, hz.2⟩, k4, c1.mono (by simp), y1⟩
theorem atI_last (r : List PyData) (x : PyData) : atI (r ++ [x]) (-1) = some x := by
  have e : (-1 + ((r.length : Int) + 1)).toNat = r.length := by omega
  have e2 : (1 : Int) ≤ (r.length : Int) + 1 := by omega
  simp [atI, ixN, e, e2]
theorem cut_last (r : List PyData) (x : PyData) : gCut none (some (-1)) (.list (r ++ [x])) = some (.lst r) := by
  have e : (-1 + ((r.length : Int) + 1)).toNat = r.length := by omega
  unfold gCut cutD
  simp [HT.sIx, e]
theorem q678 {δ : DS} {z : Str} (h : δ.length = 19) (h4 : at? δ 4 = some (.dat (.str z))) (hz : Txt_ 45 z) : ∃ δ', sSeq q6 (sSeq q7 q8) δ = .ok .nx δ' ∧ Ch [6] δ δ' := by
  have hs := txt_fair hz (by decide)
  obtain ⟨r, b, q, lx, hr⟩ := lx_ex z _ 0 rfl (Nat.zero_le _)
  have hz1 := hz.1
  have f1 := law_lexemes_ok hs.fair lx (by omega)
  have f2 := told_ok hs.fair lx (by omega)
  have f3 := told_repr hs lx (by omega)
  have e6 : eCall F__law_lexemes (evs [(eSlot 4)]) δ = .ok (.val (.lst (r ++ [lastD z b q]))) δ := eCall_ok (ds := [.str z]) (by simp [evs, bnd, slot_dat h4, Ev.ret, vals]) f1
  have a6 : q6 δ = .ok .nx (δ.set 6 (some (.lst (r ++ [lastD z b q])))) := set_ok e6 (by omega)
  have w6 : at? (δ.set 6 (some (.lst (r ++ [lastD z b q])))) 6 = some (.lst (r ++ [lastD z b q])) := at_self (by omega)
  have n1 : (eOp (g1 (gUn .USub)) [(eDat (.int 1))]) (δ.set 6 (some (.lst (r ++ [lastD z b q])))) = .ok (.val (.dat (.int (-1)))) (δ.set 6 (some (.lst (r ++ [lastD z b q])))) := rfl
  have x1 : (eOp (g2 gIdx) [(eSlot 6), (eOp (g1 (gUn .USub)) [(eDat (.int 1))])]) (δ.set 6 (some (.lst (r ++ [lastD z b q])))) = .ok (.val (.dat (lastD z b q))) (δ.set 6 (some (.lst (r ++ [lastD z b q])))) :=
    eOp2 (d := .list (r ++ [lastD z b q])) (d2 := .int (-1)) (slot_lst w6) n1 (by show (at? _ 6).bind SV.data = _; rw [w6]; rfl) rfl (by show (atI (r ++ [lastD z b q]) (-1)).map _ = _; rw [atI_last]; rfl)
  have a7 : q7 (δ.set 6 (some (.lst (r ++ [lastD z b q])))) = .ok .nx ((δ.set 6 (some (.lst (r ++ [lastD z b q])))).set 6 (some (.dat (told r b q)))) := by
    refine set_ok (v := .dat (told r b q)) ?_ (by simp; omega)
    cases b with
    | true =>
      have x2 := eOp2 (f := g2 gIdx) (d := lastD z true q) (d2 := .int 0) (s := .dat (.str "end")) x1 (show eDat (.int 0) _ = _ from rfl) rfl rfl rfl
      have x3 := eOp2 (f := gB2 (gCmp .Eq)) (d := .str "end") (d2 := .str "end") (s := .dat (.bool true)) x2 (show eDat (.str "end") _ = _ from rfl) rfl rfl (by show (eq? (.str "end") (.str "end")).map _ = _; rw [eq_strs]; rfl)
      have t1 := tOf_ok x3
      refine (mIf_t t1).trans ?_
      have cu : eCut (eSlot 6) none (some (eOp (g1 (gUn .USub)) [(eDat (.int 1))])) (δ.set 6 (some (.lst (r ++ [lastD z true q])))) = .ok (.val (.lst r)) (δ.set 6 (some (.lst (r ++ [lastD z true q])))) := by
        have hd : (Opd.slot 6).data (δ.set 6 (some (.lst (r ++ [lastD z true q])))) = some (.list (r ++ [lastD z true q])) := by show (at? _ 6).bind SV.data = _; rw [w6]; rfl
        unfold eCut
        rw [bnd_ok (slot_lst w6), bnd_ok (show partM none _ = _ from rfl), bnd_ok (show partM (some (eOp (g1 (gUn .USub)) [(eDat (.int 1))])) (δ.set 6 (some (.lst (r ++ [lastD z true q])))) = .ok (some (-1)) _ from rfl)]
        simp [opN, datas, hd, g1, cut_last]
      exact eTup2 (show eDat (.str "told") _ = _ from rfl) cu rfl
    | false =>
      have k4 : eq? (.str "wrong") (.str "end") = some false := by decide +kernel
      have x2 := eOp2 (f := g2 gIdx) (d := lastD z false q) (d2 := .int 0) (s := .dat (.str "wrong")) x1 (show eDat (.int 0) _ = _ from rfl) rfl rfl rfl
      have x3 := eOp2 (f := gB2 (gCmp .Eq)) (d := .str "wrong") (d2 := .str "end") (s := .dat (.bool false)) x2 (show eDat (.str "end") _ = _ from rfl) rfl rfl (by show (eq? (.str "wrong") (.str "end")).map _ = _; rw [k4]; rfl)
      have t1 := tOf_ok x3
      refine (mIf_f t1).trans ?_
      have x4 := eOp2 (f := g2 gIdx) (d := lastD z false q) (d2 := .int 2) (s := .dat (.int q)) x1 (show eDat (.int 2) _ = _ from rfl) rfl rfl rfl
      exact eTup2 (show eDat (.str "refused") _ = _ from rfl) x4 rfl
  have v4 : at? ((δ.set 6 (some (.lst (r ++ [lastD z b q])))).set 6 (some (.dat (told r b q)))) 4 = some (.dat (.str z)) := by rw [at_ne (by decide), at_ne (by decide)]; exact h4
  have v6 : at? ((δ.set 6 (some (.lst (r ++ [lastD z b q])))).set 6 (some (.dat (told r b q)))) 6 = some (.dat (told r b q)) := at_self (by simp; omega)
  refine ⟨(δ.set 6 (some (.lst (r ++ [lastD z b q])))).set 6 (some (.dat (told r b q))), (sSeq_nx a6).trans ((sSeq_nx a7).trans ?_), ((Ch.set δ 6 _).trans (Ch.set _ 6 _))⟩
  have y1 : eCall F__law_told_lexemes (evs [(eSlot 4)]) ((δ.set 6 (some (.lst (r ++ [lastD z b q])))).set 6 (some (.dat (told r b q)))) = .ok (.val (.dat (told r b q))) ((δ.set 6 (some (.lst (r ++ [lastD z b q])))).set 6 (some (.dat (told r b q)))) := eCall_ok (ds := [.str z]) (by simp only [evs, bnd, slot_dat v4, Ev.ret, vals, List.map]) f2
  have y2 := eOp1 (f := g1 gRepr) (d := told r b q) y1 rfl f3
  have y3 := eOp1 (f := g1 gRepr) (d := told r b q) (slot_dat v6) rfl f3
  have y4 := eOp2 (f := gB2 (gCmp .NotEq)) (d := .str (told r b q).shown) (d2 := .str (told r b q).shown) (s := .dat (.bool false)) y2 y3 rfl rfl (by show ((eq? _ _).map _).map _ = _; rw [eq_strs]; rfl)
  have t1 := tOf_ok y4
  exact (mIf_f t1).trans rfl
theorem forI {s0 : SV} : ∀ (ds : List PyData) (δ : DS) (S : Src), δ.length = 19 → at? δ 0 = some s0 → at? δ 1 = some (.src S) → ∃ (δ' : DS) (S' : Src), Ev.forM (Ev.gName 2) (sSeq q3 (sSeq q4 (sSeq q5 (sSeq q6 (sSeq q7 q8))))) ds δ = .ok .nx δ' ∧ δ'.length = 19 ∧ at? δ' 0 = some s0 ∧ at? δ' 1 = some (.src S')
  | [], δ, S, h, h0, h1 => ⟨δ, S, rfl, h, h0, h1⟩
  | d :: ds, δ, S, h, h0, h1 => by
    have a2 : asg (Ev.gName 2) (.dat d) δ = .ok () (δ.set 2 (some (.dat d))) := by unfold asg Ev.gName; simp [h]
    have l2 : (δ.set 2 (some (.dat d))).length = 19 := by simp [h]
    have a3 := q3_ok l2
    have l3 : ((δ.set 2 (some (.dat d))).set 3 (some (.lst pieces))).length = 19 := by simp [h]
    obtain ⟨z, δ4, S4, e4, hz, z4, c4, g4⟩ := q4_ok (S := S) l3 (by rw [at_ne (by decide), at_ne (by decide)]; exact h1) (at_self (by simp [h]))
    have l4 : δ4.length = 19 := by rw [c4.len, l3]
    obtain ⟨z', δ5, S5, e5, hz', z5, c5, g5⟩ := q5_ok l4 g4 z4 hz
    have l5 : δ5.length = 19 := by rw [c5.len, l4]
    obtain ⟨δ6, e6, c6⟩ := q678 l5 z5 hz'
    have l6 : δ6.length = 19 := by rw [c6.len, l5]
    obtain ⟨δ', S', e', hl', h0', h1'⟩ := forI ds δ6 S5 l6 (by rw [c6.at_ 0 (by simp), c5.at_ 0 (by simp), c4.at_ 0 (by simp), at_ne (by decide), at_ne (by decide)]; exact h0) (by rw [c6.at_ 1 (by simp)]; exact g5)
    refine ⟨δ', S', ?_, hl', h0', h1'⟩
    unfold Ev.forM
    rw [bnd_ok a2, bnd_ok ((sSeq_nx a3).trans ((sSeq_nx e4).trans ((sSeq_nx e5).trans e6)))]
    exact e'
theorem law_true (ns : List Int) (h : ns.length ≤ 63) : ∃ v, F_law [.scr ns] = .ret (.dat (.bool true)) [v] := by
  obtain ⟨S, eS⟩ := source_ok ns h
  have eS' : F__law_source [.scr ns] = .ret (.src S) [.scr ns] := eS
  have e1 : eCall F__law_source (evs [(eSlot 0)]) (some (.scr ns) :: List.replicate 18 none) = .ok (.val (.src S)) (some (.scr ns) :: List.replicate 18 none) := by
    unfold eCall
    rw [bnd_ok (show evs [(eSlot 0)] (some (.scr ns) :: List.replicate 18 none) = .ok [.slot 0] (some (.scr ns) :: List.replicate 18 none) from rfl)]
    unfold mCall
    rw [bnd_ok (show lends [.slot 0] (some (.scr ns) :: List.replicate 18 none) = .ok [.scr ns] (none :: List.replicate 18 none) from rfl), eS']
    rfl
  have a1 : set1 (some (.scr ns) :: List.replicate 18 none) = .ok .nx ((some (.scr ns) :: List.replicate 18 none).set 1 (some (.src S))) := set_ok e1 (by simp)
  obtain ⟨δ1, S1, e2, l1, h0, h1⟩ := forI (s0 := .scr ns) (rng 0 8) ((some (.scr ns) :: List.replicate 18 none).set 1 (some (.src S))) S rfl rfl rfl
  have a2 : for0 ((some (.scr ns) :: List.replicate 18 none).set 1 (some (.src S))) = .ok .nx δ1 := by
    rw [for0_is]
    refine (sFor_ok (ds := rng 0 8) ?_).trans e2
    unfold itRng1
    rw [bnd_ok (show eDat (.int 8) _ = _ from rfl)]
    show (if -(2 ^ 62) ≤ (8 : Int) ∧ (8 : Int) < 2 ^ 62 then R.ok (rng 0 8) _ else .bad) = _
    rw [if_pos (by decide)]
  obtain ⟨δ2, e3, g0⟩ := names_ok l1 h0 h1
  rw [law_is]
  obtain ⟨tl, htl⟩ : ∃ tl, δ2 = some (.scr ns) :: tl := by
    cases δ2 with
    | nil => cases g0
    | cons x tl => exact ⟨tl, by have : x = some (.scr ns) := by simpa [at?] using g0
                                 rw [this]⟩
  refine ⟨.scr ns, fnOf_rt rfl rfl (δ' := δ2) ((sSeq_nx a1).trans ((sSeq_nx a2).trans e3)) ?_⟩
  rw [htl]
  rfl
end
end Lw

namespace Lw
open PySem PySem.Spec L2 Ev
open PyProof.Rows hiding St
theorem fx_of {K : PySem.W.Frag} {h : Heap} {mg : Str → Option Value} (KX : K.In h) (G : h.Ns mainGlobals mg) (c : Hz.SaysZ Hd.fa Hd.fn Hd.ex Hd.xs K) : Fx PySem.Challenge.pw_answerrows_k01_lexemes_and_names K mg := by
  have hex : Hd.ex K = true := c.more
  exact {
    f_ValueError := He.free_ok KX G (c.d.fact 18 rfl),
    f_abs := He.free_ok KX G (c.d.fact 19 rfl),
    f_all := He.free_ok KX G (c.d.fact 20 rfl),
    f_dict := He.free_ok KX G (c.d.fact 21 rfl),
    f_int := He.free_ok KX G (c.d.fact 22 rfl),
    f_isinstance := He.free_ok KX G (c.d.fact 23 rfl),
    f_len := He.free_ok KX G (c.d.fact 24 rfl),
    f_list := He.free_ok KX G (c.d.fact 25 rfl),
    f_max := He.free_ok KX G (c.d.fact 26 rfl),
    f_range := He.free_ok KX G (c.d.fact 27 rfl),
    f_repr := He.free_ok KX G (c.d.fact 28 rfl),
    f_sorted := He.free_ok KX G (c.d.fact 29 rfl),
    f_str := He.free_ok KX G (c.d.fact 30 rfl),
    f_super := He.free_ok KX G (c.d.fact 31 rfl),
    f_zip := He.free_ok KX G (c.d.fact 32 rfl),
    g_BLANKS := He.str_ok KX G (c.d.fact 33 rfl),
    g_SIGNS := He.str_ok KX G (c.d.fact 34 rfl),
    g_SMALL := He.str_ok KX G (c.d.fact 35 rfl),
    g_BIG := He.str_ok KX G (c.d.fact 36 rfl),
    g_FIGURES := He.str_ok KX G (c.d.fact 37 rfl),
    g_MOST_LETTERS := He.int_ok KX G (c.d.fact 38 rfl),
    g_MOST_SIGNS := He.int_ok KX G (c.d.fact 39 rfl),
    g_KEPT := ⟨_, He.glo_ok KX G (c.d.fact 40 rfl), fun H => .tup (He.tupB_ok (He.ba hex).1 H) (.cons (.str _) (.cons (.str _) (.cons (.str _) (.cons (.str _) (.cons (.str _) (.cons (.str _) (.cons (.str _) (.cons (.str _) (.cons (.str _) (.cons (.str _) (.cons (.str _) (.cons (.str _) (.cons (.str _) (.cons (.str _) (.cons (.str _) (.cons (.str _) (.cons (.str _) (.cons (.str _) (.cons (.str _) (.cons (.str _) (.cons (.str _) (.cons (.str _) (.cons (.str _) (.cons (.str _) (.cons (.str _) (.cons (.str _) (.cons (.str _) (.cons (.str _) (.cons (.str _) (.cons (.str _) (.cons (.str _) (.cons (.str _) (.cons (.str _) (.cons (.str _) (.cons (.str _) (.cons (.str _) (.cons (.str _) (.cons (.str _) (.cons (.str _) (.cons (.str _) (.cons (.str _) (.cons (.str _) .nil))))))))))))))))))))))))))))))))))))))))))⟩,
    x_BadText := (Hz.excB_ok (He.ba hex).2).k (Hz.exI_of (c.at_ 0 rfl) (Hz.excB_ok (He.ba hex).2).a0 ⟨_, _, _, _, _, _, _, _, _, _, rfl, rfl⟩ ⟨_, rfl, rfl⟩ (fun _ _ _ _ _ _ _ _ _ => rfl) rfl rfl rfl (by decide +kernel) rfl rfl rfl rfl) (He.glo_ok KX G (c.d.fact 1 rfl)) (He.eqO_ok (c.d.fact 1 rfl)),
    y_BadText := (Hz.excB_ok (He.ba hex).2).c (He.glo_ok KX G (c.d.fact 1 rfl)) (He.eqO_ok (c.d.fact 1 rfl)) }
theorem law_g {w : World} {K : PySem.W.Frag} {h : Heap} {mg : Str → Option Value} {fa : Addr} (KX : K.In h) (G : h.Ns mainGlobals mg) (c : Hz.SaysZ Hd.fa Hd.fn Hd.ex Hd.xs K) (hfa : mg ("law" : Str) = some (.ref fa)) :
    ∃ fd : FuncData, (∀ (s : Shared) (u : Value), BindsTo s fd ⟨[u], []⟩ [("script", u)]) ∧ ∀ base : Heap, K.In base → base.Ns mainGlobals mg → FnG PySem.Challenge.pw_answerrows_k01_lexemes_and_names w K mg base 5 fa fd ["script"] (spF K 1 F_law) := by
  have fx := fx_of KX G c
  obtain ⟨fd_run_end, Fd_run_end⟩ := c.d.def_ 0 (d := Hd.d_run_end) rfl
  obtain ⟨fd_lexeme_at, Fd_lexeme_at⟩ := c.d.def_ 1 (d := Hd.d_lexeme_at) rfl
  obtain ⟨fd_lexemes, Fd_lexemes⟩ := c.d.def_ 2 (d := Hd.d_lexemes) rfl
  obtain ⟨fd_are_letters, Fd_are_letters⟩ := c.d.def_ 3 (d := Hd.d_are_letters) rfl
  obtain ⟨fd_is_word_of, Fd_is_word_of⟩ := c.d.def_ 4 (d := Hd.d_is_word_of) rfl
  obtain ⟨fd_is_name, Fd_is_name⟩ := c.d.def_ 5 (d := Hd.d_is_name) rfl
  obtain ⟨fd_is_small_name, Fd_is_small_name⟩ := c.d.def_ 6 (d := Hd.d_is_small_name) rfl
  obtain ⟨fd_is_big_name, Fd_is_big_name⟩ := c.d.def_ 7 (d := Hd.d_is_big_name) rfl
  obtain ⟨fd__law_source, Fd__law_source⟩ := c.d.def_ 8 (d := Hd.d__law_source) rfl
  obtain ⟨fd__law_pick, Fd__law_pick⟩ := c.d.def_ 9 (d := Hd.d__law_pick) rfl
  obtain ⟨fd__law_of, Fd__law_of⟩ := c.d.def_ 10 (d := Hd.d__law_of) rfl
  obtain ⟨fd__law_kept, Fd__law_kept⟩ := c.d.def_ 11 (d := Hd.d__law_kept) rfl
  obtain ⟨fd__law_lexemes, Fd__law_lexemes⟩ := c.d.def_ 12 (d := Hd.d__law_lexemes) rfl
  obtain ⟨fd__law_is_name, Fd__law_is_name⟩ := c.d.def_ 13 (d := Hd.d__law_is_name) rfl
  obtain ⟨fd__law_told_lexemes, Fd__law_told_lexemes⟩ := c.d.def_ 14 (d := Hd.d__law_told_lexemes) rfl
  obtain ⟨fd_law, Fd_law⟩ := c.d.def_ 15 (d := Hd.d_law) rfl
  have g_run_end : mg "run_end" = some (.ref (He.ga K "run_end")) := He.glo_ok KX G (c.d.fact 17 rfl)
  have g_lexeme_at : mg "lexeme_at" = some (.ref (He.ga K "lexeme_at")) := He.glo_ok KX G (c.d.fact 15 rfl)
  have g_lexemes : mg "lexemes" = some (.ref (He.ga K "lexemes")) := He.glo_ok KX G (c.d.fact 16 rfl)
  have g_are_letters : mg "are_letters" = some (.ref (He.ga K "are_letters")) := He.glo_ok KX G (c.d.fact 9 rfl)
  have g_is_word_of : mg "is_word_of" = some (.ref (He.ga K "is_word_of")) := He.glo_ok KX G (c.d.fact 13 rfl)
  have g_is_name : mg "is_name" = some (.ref (He.ga K "is_name")) := He.glo_ok KX G (c.d.fact 11 rfl)
  have g_is_small_name : mg "is_small_name" = some (.ref (He.ga K "is_small_name")) := He.glo_ok KX G (c.d.fact 12 rfl)
  have g_is_big_name : mg "is_big_name" = some (.ref (He.ga K "is_big_name")) := He.glo_ok KX G (c.d.fact 10 rfl)
  have g__law_source : mg "_law_source" = some (.ref (He.ga K "_law_source")) := He.glo_ok KX G (c.d.fact 7 rfl)
  have g__law_pick : mg "_law_pick" = some (.ref (He.ga K "_law_pick")) := He.glo_ok KX G (c.d.fact 6 rfl)
  have g__law_of : mg "_law_of" = some (.ref (He.ga K "_law_of")) := He.glo_ok KX G (c.d.fact 5 rfl)
  have g__law_kept : mg "_law_kept" = some (.ref (He.ga K "_law_kept")) := He.glo_ok KX G (c.d.fact 3 rfl)
  have g__law_lexemes : mg "_law_lexemes" = some (.ref (He.ga K "_law_lexemes")) := He.glo_ok KX G (c.d.fact 4 rfl)
  have g__law_is_name : mg "_law_is_name" = some (.ref (He.ga K "_law_is_name")) := He.glo_ok KX G (c.d.fact 2 rfl)
  have g__law_told_lexemes : mg "_law_told_lexemes" = some (.ref (He.ga K "_law_told_lexemes")) := He.glo_ok KX G (c.d.fact 8 rfl)
  have g_law : mg "law" = some (.ref (He.ga K "law")) := He.glo_ok KX G (c.d.fact 14 rfl)
  have eq : fa = He.ga K "law" := by rw [g_law] at hfa; cases hfa; rfl
  subst eq
  refine ⟨fd_law, fun s u => FunD.bindsA (ps := ["script"]) Fd_law (fun _ _ _ _ _ _ us hl => match us, hl with | [_], _ => rfl) s [u] rfl, fun base B1 B2 => ?_⟩
  have c_run_end := c_run_end (P := PySem.Challenge.pw_answerrows_k01_lexemes_and_names) (w := w) (base := base) fx  Fd_run_end g_run_end
  have c_lexeme_at := c_lexeme_at (P := PySem.Challenge.pw_answerrows_k01_lexemes_and_names) (w := w) (base := base) fx c_run_end Fd_lexeme_at g_lexeme_at
  have c_lexemes := c_lexemes (P := PySem.Challenge.pw_answerrows_k01_lexemes_and_names) (w := w) (base := base) fx c_lexeme_at Fd_lexemes g_lexemes
  have c_are_letters := c_are_letters (P := PySem.Challenge.pw_answerrows_k01_lexemes_and_names) (w := w) (base := base) fx  Fd_are_letters g_are_letters
  have c_is_word_of := c_is_word_of (P := PySem.Challenge.pw_answerrows_k01_lexemes_and_names) (w := w) (base := base) fx  Fd_is_word_of g_is_word_of
  have c_is_name := c_is_name (P := PySem.Challenge.pw_answerrows_k01_lexemes_and_names) (w := w) (base := base) fx  Fd_is_name g_is_name
  have c_is_small_name := c_is_small_name (P := PySem.Challenge.pw_answerrows_k01_lexemes_and_names) (w := w) (base := base) fx c_is_name Fd_is_small_name g_is_small_name
  have c_is_big_name := c_is_big_name (P := PySem.Challenge.pw_answerrows_k01_lexemes_and_names) (w := w) (base := base) fx c_is_name Fd_is_big_name g_is_big_name
  have c__law_source := c__law_source (P := PySem.Challenge.pw_answerrows_k01_lexemes_and_names) (w := w) (base := base) fx  Fd__law_source g__law_source
  have c__law_pick := c__law_pick (P := PySem.Challenge.pw_answerrows_k01_lexemes_and_names) (w := w) (base := base) fx  Fd__law_pick g__law_pick
  have c__law_of := c__law_of (P := PySem.Challenge.pw_answerrows_k01_lexemes_and_names) (w := w) (base := base) fx c__law_pick Fd__law_of g__law_of
  have c__law_kept := c__law_kept (P := PySem.Challenge.pw_answerrows_k01_lexemes_and_names) (w := w) (base := base) fx  Fd__law_kept g__law_kept
  have c__law_lexemes := c__law_lexemes (P := PySem.Challenge.pw_answerrows_k01_lexemes_and_names) (w := w) (base := base) fx  Fd__law_lexemes g__law_lexemes
  have c__law_is_name := c__law_is_name (P := PySem.Challenge.pw_answerrows_k01_lexemes_and_names) (w := w) (base := base) fx c__law_kept Fd__law_is_name g__law_is_name
  have c__law_told_lexemes := c__law_told_lexemes (P := PySem.Challenge.pw_answerrows_k01_lexemes_and_names) (w := w) (base := base) fx c_lexemes Fd__law_told_lexemes g__law_told_lexemes
  exact fnG_law (P := PySem.Challenge.pw_answerrows_k01_lexemes_and_names) (w := w) (base := base) fx c__law_source c__law_pick c__law_of c__law_lexemes c__law_told_lexemes c__law_kept c_are_letters c_is_word_of c__law_is_name c_is_name c_is_small_name c_is_big_name c_lexemes Fd_law g_law
end Lw
open PySem PySem.W PySem.Calls PyProof.Rows
theorem PySem.Challenge.cw_answerrows_k01_lexemes_and_names_holds : PySem.Challenge.rw_answerrows_k01_lexemes_and_names.Holds := by
  w_on; o_law
  refine HandSHeadRun.head_any (r := OpenLaw.row PySem.Challenge.rw_answerrows_k01_lexemes_and_names) (q := view (OpenLaw.row PySem.Challenge.rw_answerrows_k01_lexemes_and_names).prog [28]) (H := Hd.hk) (ob := Hd.ob) (M := 4000) (loose := Hd.loose) (d := HandSHeadRun.topDef (OpenLaw.row PySem.Challenge.rw_answerrows_k01_lexemes_and_names).prog 28) (kwd := []) Hd.ob_eq
    (by kernel_rfl) (fun s => by kernel_rfl) Hd.run (by kernel_rfl) (by kernel_rfl) (by kernel_rfl) (by rfl) (by first | assumption | decide +kernel) (by decide +kernel) ⟨rfl, rfl, rfl, rfl, rfl, by decide +kernel⟩ ?hw ?hc
  case hw => w_witness2
  case hc =>
    refine Ev.walk_ev (l := PySem.Challenge.rw_answerrows_k01_lexemes_and_names) (n := 63) (k := 5) (x := "script") (F := Lw.F_law) rfl (by decide) (by kernel_rfl) ⟨rfl, by decide, by decide⟩ Lw.law_true ?_
    intro w mg fa h Y G hmg0
    obtain ⟨K, KX, c⟩ := Y
    have hmg : mg ("law" : PySem.Str) = some (.ref fa) := by
      have e : (HandSHeadRun.topDef (OpenLaw.row PySem.Challenge.rw_answerrows_k01_lexemes_and_names).prog 28).name = ("law" : PySem.Str) := by kernel_rfl
      rw [← e]
      exact hmg0
    obtain ⟨fd, hb, hF⟩ := Lw.law_g (w := w) KX G c hmg
    exact ⟨K, fd, KX, hb, hF⟩
