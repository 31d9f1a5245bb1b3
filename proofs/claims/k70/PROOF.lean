import PyProof.Rows.All
import Wide.All
import OpenK.AllK
import Wide.FinOn
import HandS.ForMost
import HandS.ForExc
import HandS.ExcInit
import HandS.TupAny
import HandS.TupMul
import HandS.Deep
import HandS.Wide
import PyProof.Claim2Refuses
import HandS.IsInst
import HandS.Zip
import HandS.Star
import HandS.Style
import KE.SortData
import HandS.ExcField
import KE.KExcSuper
import KE.KExcLine
import KE.KExcIs
import HandS.Dict
import HandS.HeadHook1
import HandS.HeadHook2
import HandS.Head0
import HandS.Head1
import HandS.Head2
import KE.KStateDown
import PySem.Challenge.RW_handedvotes_k70_errors
set_option Elab.async false
set_option linter.all false
set_option maxRecDepth 100000
set_option maxHeartbeats 4000000
namespace DL
open PySem L2

/-! ### data -/
inductive D where
  | non | bl (b : Bool) | int (i : Int) | str (x : Str) | tup (ds : List D) | lst (ds : List D) | dct (kvs : List (D × D)) | frl (ds : List D) | tpw (ds : List D) | obj (c : Str) (fs : List (Str × D)) | exc (c : Str) (fs : List (Str × D)) | cls (c : Str) | ref (a : Addr) | ty (n : String) | own (d : D)
  deriving Inhabited
def D.isOwn : D → Bool
  | .own _ => true
  | _ => false

structure Md where
  K : PySem.W.Frag
  mg : Str → Option Value
abbrev _root_.L2.Cx.md (X : Cx) : Md := ⟨X.K, X.mg⟩

def keyD : Key → D
  | .inl i => .int i
  | .inr x => .str x

/-- a tuple of which it is known that it bears no dict of its own -/
def TupAt (K : PySem.W.Frag) (B : Hp) (a : Addr) (xs : List V) : Prop := (∃ o : Obj, o.dict = none ∧ B a = some (.frz o (.tup xs))) ∨
  ∃ (o : Obj) (its : Array Value) (n : Nat), K.lookup a = some o ∧ o.cls = .type "tuple" ∧ o.dict = none ∧ o.data = .seq its n ∧ its.size ≤ sizeLine ∧ Vals xs its.toList
theorem TupAt.st {K : PySem.W.Frag} {B : Hp} {a : Addr} {xs : List V} (h : TupAt K B a xs) : SqT K B a xs := by
  rcases h with ⟨o, _, h⟩ | ⟨o, its, n, h1, h2, _, h3, h4, h5⟩
  · exact .inl (.inr ⟨o, h⟩)
  · exact .inr ⟨o, its, n, h1, h2, h3, h4, h5⟩
theorem TupAt.new {K : PySem.W.Frag} {B : Hp} {p : Addr} {o : Obj} {xs : List V} (h : o.dict = none) : TupAt K (upd B p (.frz o (.tup xs))) p xs := .inl ⟨o, h, upd_same⟩
mutual
inductive Dp (M : Md) (B : Hp) : V → D → Prop
  | non : Dp M B .non .non
  | bl (b : Bool) : Dp M B (.bl b) (.bl b)
  | int (i : Int) : Dp M B (.int i) (.int i)
  | str (x : Str) : Dp M B (.str x) (.str x)
  | ty (n : String) : Dp M B (.ty n) (.ty n)
  | ref (a : Addr) : Dp M B (.ref a) (.ref a)
  | tup {a : Addr} {xs : List V} {ds : List D} : TupAt M.K B a xs → Dps M B xs ds → Dp M B (.ref a) (.tup ds)
  | tpw {a : Addr} {xs : List V} {ds : List D} : SqT M.K B a xs → Dps M B xs ds → Dp M B (.ref a) (.tpw ds)
  | lst {a : Addr} {xs : List V} {ds : List D} : B a = some (.lst xs) → Dps M B xs ds → Dp M B (.ref a) (.lst ds)
  | frl {a : Addr} {xs : List V} {ds : List D} : SqL M.K B a xs → Dps M B xs ds → Dp M B (.ref a) (.frl ds)
  | dct {a : Addr} {kvs : List (Key × V)} {ds : List (D × D)} : B a = some (.dK kvs) → Dpk M B kvs ds → Dp M B (.ref a) (.dct ds)
  | obj {a C dx : Addr} {c : Str} {vs : List (Str × V)} {fs : List (Str × D)} : M.mg c = some (.ref C) → B a = some (.ins C dx vs) → Dpf M B vs fs → Dp M B (.ref a) (.obj c fs)
  | cls {C : Addr} {c : Str} : M.mg c = some (.ref C) → Dp M B (.ref C) (.cls c)
  | exc {a C dx : Addr} {c : Str} {vs : List (Str × V)} {fs : List (Str × D)} : M.mg c = some (.ref C) → B a = some (exo a C (some dx)) → B dx = some (exd dx vs) → Dpf M B vs fs → Dp M B (.ref a) (.exc c fs)
inductive Dps (M : Md) (B : Hp) : List V → List D → Prop
  | nil : Dps M B [] []
  | cons {v : V} {d : D} {vs : List V} {ds : List D} : Dp M B v d → Dps M B vs ds → Dps M B (v :: vs) (d :: ds)
inductive Dpk (M : Md) (B : Hp) : List (Key × V) → List (D × D) → Prop
  | nil : Dpk M B [] []
  | cons {k : Key} {v : V} {d : D} {vs : List (Key × V)} {ds : List (D × D)} : Dp M B v d → Dpk M B vs ds → Dpk M B ((k, v) :: vs) ((keyD k, d) :: ds)
inductive Dpf (M : Md) (B : Hp) : List (Str × V) → List (Str × D) → Prop
  | nil : Dpf M B [] []
  | cons {k : Str} {v : V} {d : D} {vs : List (Str × V)} {ds : List (Str × D)} : Dp M B v d → Dpf M B vs ds → Dpf M B ((k, v) :: vs) ((k, d) :: ds)
end

/-! ### heaps that grow -/
def Ex (B B' : Hp) : Prop := ∀ a o, B a = some o → B' a = some o
theorem Ex.refl (B : Hp) : Ex B B := fun _ _ h => h
theorem Ex.trans {B B1 B2 : Hp} (a : Ex B B1) (b : Ex B1 B2) : Ex B B2 := fun x o h => b x o (a x o h)
theorem Ex.new {B : Hp} {p : Addr} {o : HO} (h : B p = none) : Ex B (upd B p o) := fun a u e => by
  rw [upd_ne (ne_of_none e h)]; exact e
theorem Ex.free {B B' : Hp} (e : Ex B B') {p : Addr} (h : B' p = none) : B p = none := by
  cases q : B p with
  | none => rfl
  | some o => rw [e p o q] at h; cases h
theorem Ex.rd {B B' : Hp} {a : Addr} {u : HO} (e : Ex B B') (h : Rd B a u) : Rd B' a u := by
  rcases h with h | ⟨o, h⟩
  · exact .inl (e a _ h)
  · exact .inr ⟨o, e a _ h⟩
theorem Ex.sl {K : PySem.W.Frag} {B B' : Hp} {a : Addr} {xs : List V} (e : Ex B B') (h : SqL K B a xs) : SqL K B' a xs := by
  rcases h with h | h
  · exact .inl (e.rd h)
  · exact .inr h
theorem Ex.st {K : PySem.W.Frag} {B B' : Hp} {a : Addr} {xs : List V} (e : Ex B B') (h : SqT K B a xs) : SqT K B' a xs := by
  rcases h with h | h
  · exact .inl (e.rd h)
  · exact .inr h
theorem Ex.tt {K : PySem.W.Frag} {B B' : Hp} {a : Addr} {xs : List V} (e : Ex B B') (h : TupAt K B a xs) : TupAt K B' a xs := by
  rcases h with ⟨o, h1, h⟩ | h
  · exact .inl ⟨o, h1, e _ _ h⟩
  · exact .inr h
mutual
theorem Dp.mono {M : Md} {B B' : Hp} (e : Ex B B') : ∀ {v : V} {d : D}, Dp M B v d → Dp M B' v d
  | _, _, .non => .non
  | _, _, .bl b => .bl b
  | _, _, .int i => .int i
  | _, _, .str x => .str x
  | _, _, .ty n => .ty n
  | _, _, .ref a => .ref a
  | _, _, .tup s h => .tup (e.tt s) (Dps.mono e h)
  | _, _, .tpw s h => .tpw (e.st s) (Dps.mono e h)
  | _, _, .lst s h => .lst (e _ _ s) (Dps.mono e h)
  | _, _, .frl s h => .frl (e.sl s) (Dps.mono e h)
  | _, _, .dct s h => .dct (e _ _ s) (Dpk.mono e h)
  | _, _, .obj c s h => .obj c (e _ _ s) (Dpf.mono e h)
  | _, _, .cls c => .cls c
  | _, _, .exc c s t h => .exc c (e _ _ s) (e _ _ t) (Dpf.mono e h)
theorem Dps.mono {M : Md} {B B' : Hp} (e : Ex B B') : ∀ {v : List V} {d : List D}, Dps M B v d → Dps M B' v d
  | _, _, .nil => .nil
  | _, _, .cons h t => .cons (Dp.mono e h) (Dps.mono e t)
theorem Dpk.mono {M : Md} {B B' : Hp} (e : Ex B B') : ∀ {v : List (Key × V)} {d : List (D × D)}, Dpk M B v d → Dpk M B' v d
  | _, _, .nil => .nil
  | _, _, .cons h t => .cons (Dp.mono e h) (Dpk.mono e t)
theorem Dpf.mono {M : Md} {B B' : Hp} (e : Ex B B') : ∀ {v : List (Str × V)} {d : List (Str × D)}, Dpf M B v d → Dpf M B' v d
  | _, _, .nil => .nil
  | _, _, .cons h t => .cons (Dp.mono e h) (Dpf.mono e t)
end
theorem Dps.length {M : Md} {B : Hp} : ∀ {v : List V} {d : List D}, Dps M B v d → v.length = d.length
  | _, _, .nil => rfl
  | _, _, .cons _ t => by simp [Dps.length t]
theorem Dps.get {M : Md} {B : Hp} : ∀ {v : List V} {d : List D} {i : Nat} {x : D}, Dps M B v d → d[i]? = some x → ∃ u, v[i]? = some u ∧ Dp M B u x
  | _, _, _, _, .nil, e => by simp at e
  | _, _, 0, _, .cons h _, e => by simp at e; subst e; exact ⟨_, rfl, h⟩
  | _, _, i + 1, x, .cons _ t, e => by
    obtain ⟨u, h1, h2⟩ := Dps.get (i := i) (x := x) t (by simpa using e)
    exact ⟨u, by simpa using h1, h2⟩
theorem Dps.getV {M : Md} {B : Hp} : ∀ {v : List V} {d : List D} {i : Nat} {x : V}, Dps M B v d → v[i]? = some x → ∃ u, d[i]? = some u ∧ Dp M B x u
  | _, _, _, _, .nil, e => by simp at e
  | _, _, 0, _, .cons h _, e => by simp at e; subst e; exact ⟨_, rfl, h⟩
  | _, _, i + 1, x, .cons _ t, e => by
    obtain ⟨u, h1, h2⟩ := Dps.getV (i := i) (x := x) t (by simpa using e)
    exact ⟨u, by simpa using h1, h2⟩
theorem Dps.append {M : Md} {B : Hp} : ∀ {v w : List V} {d e : List D}, Dps M B v d → Dps M B w e → Dps M B (v ++ w) (d ++ e)
  | _, _, _, _, .nil, s => s
  | _, _, _, _, .cons h t, s => .cons h (Dps.append t s)
theorem Dps.take {M : Md} {B : Hp} : ∀ {v : List V} {d : List D} (n : Nat), Dps M B v d → Dps M B (v.take n) (d.take n)
  | _, _, 0, _ => .nil
  | _, _, _ + 1, .nil => .nil
  | _, _, n + 1, .cons h t => .cons h (Dps.take n t)
theorem Dps.drop {M : Md} {B : Hp} : ∀ {v : List V} {d : List D} (n : Nat), Dps M B v d → Dps M B (v.drop n) (d.drop n)
  | _, _, 0, h => h
  | _, _, _ + 1, .nil => .nil
  | _, _, n + 1, .cons _ t => Dps.drop n t
theorem Dps.rev {M : Md} {B : Hp} : ∀ {v : List V} {d : List D}, Dps M B v d → Dps M B v.reverse d.reverse
  | _, _, .nil => .nil
  | _, _, .cons h t => by
    rw [List.reverse_cons, List.reverse_cons]
    exact (Dps.rev t).append (.cons h .nil)
theorem Dps.strs {M : Md} {B : Hp} : ∀ (xs : List Str), Dps M B (xs.map V.str) (xs.map D.str)
  | [] => .nil
  | x :: r => .cons (.str x) (Dps.strs r)
theorem Dps.ints {M : Md} {B : Hp} : ∀ (xs : List Int), Dps M B (xs.map V.int) (xs.map D.int)
  | [] => .nil
  | x :: r => .cons (.int x) (Dps.ints r)
theorem Dps.ofStrs {M : Md} {B : Hp} : ∀ {v : List V} {xs : List Str}, Dps M B v (xs.map D.str) → v = xs.map V.str
  | _, [], h => by cases h; rfl
  | _, x :: r, h => by
    cases h with
    | cons h t => cases h; rw [Dps.ofStrs t]; rfl
theorem Dps.ofInts {M : Md} {B : Hp} : ∀ {v : List V} {xs : List Int}, Dps M B v (xs.map D.int) → v = xs.map V.int
  | _, [], h => by cases h; rfl
  | _, x :: r, h => by
    cases h with
    | cons h t => cases h; rw [Dps.ofInts t]; rfl
theorem Dps.ofBls {M : Md} {B : Hp} : ∀ {v : List V} {xs : List Bool}, Dps M B v (xs.map D.bl) → v = xs.map V.bl
  | _, [], h => by cases h; rfl
  | _, x :: r, h => by
    cases h with
    | cons h t => cases h; rw [Dps.ofBls t]; rfl

/-! ### what is kept beside the data: a resource, a frame -/
structure Res where
  ok : (Addr → Prop) → Hp → Prop
  alloc : ∀ (fr : Addr → Prop) (H : Hp) (p : Addr) (o : HO), ok fr H → H p = none → ok (fun a => fr a ∧ a ≠ p) (upd H p o)
  /-- what it does not lean on may change -/
  frame : ∀ (fr : Addr → Prop) (H : Hp) (p : Addr) (o : HO), ok fr H → (¬ fr p ∨ H p = none) → ok fr (upd H p o)
  more : ∀ (fr fr' : Addr → Prop) (H : Hp), ok fr H → (∀ a, fr a → fr' a) → ok fr' H
def emp : Res := ⟨fun _ _ => True, fun _ _ _ _ _ _ => trivial, fun _ _ _ _ _ _ => trivial, fun _ _ _ _ _ => trivial⟩
/-- sys.modules is none of ours -/
def sysO (o : Obj) : HO := .ext fun h => h.get? sysModules = some o
structure Wd (R : Res) (B Fz H : Hp) : Prop where
  ex : Ex B H
  fz : Ex Fz H
  sys : ∃ o, Fz sysModules = some (sysO o)
  dis : ∀ a o, Fz a = some o → B a = none
  res : R.ok (fun a => B a = none ∧ Fz a = none) H
theorem Wd.new {R : Res} {B Fz H : Hp} {p : Addr} {o : HO} (w : Wd R B Fz H) (h : H p = none) : Wd R (upd B p o) Fz (upd H p o) where
  sys := w.sys
  ex := fun a u e => by
    by_cases q : a = p
    · subst q; rw [upd_same] at e ⊢; exact e
    · rw [upd_ne q] at e ⊢; exact w.ex a u e
  fz := fun a u e => by
    rw [upd_ne (ne_of_none (w.fz a u e) h)]; exact w.fz a u e
  dis := fun a u e => by
    rw [upd_ne (ne_of_none (w.fz a u e) h)]; exact w.dis a u e
  res := by
    have r := R.alloc _ H p o w.res h
    have e : (fun a => (B a = none ∧ Fz a = none) ∧ a ≠ p) = (fun a => upd B p o a = none ∧ Fz a = none) := by
      funext a
      apply propext
      by_cases q : a = p
      · subst q; rw [upd_same]; simp
      · rw [upd_ne q]; simp [q]
    rw [e] at r
    exact r
/-- an object that nobody keeps -/
theorem Wd.junk {R : Res} {B Fz H : Hp} {p : Addr} {o : HO} (w : Wd R B Fz H) (h : H p = none) : Wd R B Fz (upd H p o) where
  sys := w.sys
  ex := fun a u e => by rw [upd_ne (ne_of_none (w.ex a u e) h)]; exact w.ex a u e
  fz := fun a u e => by rw [upd_ne (ne_of_none (w.fz a u e) h)]; exact w.fz a u e
  dis := w.dis
  res := R.frame _ H p o w.res (.inr h)
/-- a new object goes to the frame -/
theorem Wd.own {R : Res} {B Fz H : Hp} {p : Addr} {o : HO} (w : Wd R B Fz H) (h : H p = none) : Wd R B (upd Fz p o) (upd H p o) where
  sys := let ⟨o', e⟩ := w.sys; ⟨o', by rw [upd_ne (ne_of_none (w.fz _ _ e) h)]; exact e⟩
  ex := fun a u e => by rw [upd_ne (ne_of_none (w.ex a u e) h)]; exact w.ex a u e
  fz := fun a u e => by
    by_cases q : a = p
    · subst q; rw [upd_same] at e ⊢; exact e
    · rw [upd_ne q] at e ⊢; exact w.fz a u e
  dis := fun a u e => by
    by_cases q : a = p
    · subst q; exact w.ex.free h
    · rw [upd_ne q] at e; exact w.dis a u e
  res := by
    refine R.more _ _ _ (R.alloc _ H p o w.res h) fun a q => ⟨q.1.1, ?_⟩
    rw [upd_ne q.2]; exact q.1.2
/-- a thing of the frame changes -/
theorem Wd.turn {R : Res} {B Fz H : Hp} {p : Addr} {o u : HO} (w : Wd R B Fz H) (h : Fz p = some u) (hu : ∀ o', u ≠ sysO o') : Wd R B (upd Fz p o) (upd H p o) where
  sys := let ⟨o', e⟩ := w.sys; ⟨o', by rw [upd_ne (fun z => hu o' (by rw [← z, e] at h; exact (Option.some.inj h).symm))]; exact e⟩
  ex := fun a u' e => by
    have ne : a ≠ p := fun q => by subst q; rw [w.dis _ _ h] at e; cases e
    rw [upd_ne ne]; exact w.ex a u' e
  fz := fun a u e => by
    by_cases q : a = p
    · subst q; rw [upd_same] at e ⊢; exact e
    · rw [upd_ne q] at e ⊢; exact w.fz a u e
  dis := fun a u' e => by
    by_cases q : a = p
    · subst q; exact w.dis _ _ h
    · rw [upd_ne q] at e; exact w.dis a u' e
  res := by
    refine R.more _ _ _ (R.frame _ H p o w.res (.inl fun q => by rw [h] at q; cases q.2)) fun a q => ⟨q.1, ?_⟩
    have ne : a ≠ p := fun z => by subst z; rw [h] at q; cases q.2
    rw [upd_ne ne]; exact q.2
def cutH (Fz : Hp) (p : Addr) : Hp := fun b => if b = p then none else Fz b
theorem cutH_ne {Fz : Hp} {p b : Addr} (h : b ≠ p) : cutH Fz p b = Fz b := by unfold cutH; rw [if_neg h]
theorem cutH_same {Fz : Hp} {p : Addr} : cutH Fz p p = none := by unfold cutH; rw [if_pos rfl]
/-- a thing of the frame goes to the data -/
theorem Wd.give {R : Res} {B Fz H : Hp} {p : Addr} {o : HO} (w : Wd R B Fz H) (h : Fz p = some o) (hu : ∀ o', o ≠ sysO o') : Wd R (upd B p o) (cutH Fz p) H where
  sys := let ⟨o', e⟩ := w.sys; ⟨o', by rw [cutH_ne (fun z => hu o' (by rw [← z, e] at h; exact (Option.some.inj h).symm))]; exact e⟩
  ex := fun a u e => by
    by_cases q : a = p
    · subst q; rw [upd_same] at e; cases e; exact w.fz _ _ h
    · rw [upd_ne q] at e; exact w.ex a u e
  fz := fun a u e => by
    by_cases q : a = p
    · subst q; rw [cutH_same] at e; cases e
    · rw [cutH_ne q] at e; exact w.fz a u e
  dis := fun a u e => by
    by_cases q : a = p
    · subst q; rw [cutH_same] at e; cases e
    · rw [cutH_ne q] at e; rw [upd_ne q]; exact w.dis a u e
  res := by
    refine R.more _ _ _ w.res fun a q => ?_
    have ne : a ≠ p := fun z => by subst z; rw [h] at q; cases q.2
    rw [upd_ne ne, cutH_ne ne]; exact q
/-- less of the frame is told -/
theorem Wd.less {R : Res} {B Fz F0 H : Hp} (w : Wd R B Fz H) (h : Ex F0 Fz) (h0 : ∃ o, F0 sysModules = some (sysO o)) : Wd R B F0 H where
  sys := h0
  ex := w.ex
  fz := h.trans w.fz
  dis := fun a u e => w.dis a u (h a u e)
  res := R.more _ _ _ w.res fun a q => ⟨q.1, h.free q.2⟩
theorem Wd.free {R : Res} {B Fz H : Hp} {p : Addr} (w : Wd R B Fz H) (h : H p = none) : B p = none := w.ex.free h

abbrev Env := List (Option D)
structure Slots (M : Md) (B : Hp) (σ : L2.St) (ρ : Env) : Prop where
  len : σ.length = ρ.length
  get : ∀ (i : Nat) (d : D), ρ[i]? = some (some d) → d.isOwn = false → ∃ v, σ[i]? = some (some v) ∧ Dp M B v d
theorem Slots.mono {M : Md} {B B' : Hp} {σ : L2.St} {ρ : Env} (s : Slots M B σ ρ) (e : Ex B B') : Slots M B' σ ρ :=
  ⟨s.len, fun i d h n => let ⟨v, h1, h2⟩ := s.get i d h n; ⟨v, h1, h2.mono e⟩⟩
theorem Slots.set {M : Md} {B : Hp} {σ : L2.St} {ρ : Env} {i : Nat} {v : V} {d : D} (s : Slots M B σ ρ) (h : Dp M B v d) : Slots M B (σ.set i (some v)) (ρ.set i (some d)) where
  len := by rw [List.length_set, List.length_set]; exact s.len
  get := fun j x e n => by
    by_cases q : i = j
    · subst q
      have hl : i < ρ.length := by
        have := (List.getElem?_eq_some_iff.mp e).1
        rw [List.length_set] at this; exact this
      rw [List.getElem?_set_self hl] at e
      cases e
      exact ⟨v, List.getElem?_set_self (by rw [s.len]; exact hl), h⟩
    · rw [List.getElem?_set_ne q] at e ⊢
      exact s.get j x e n
theorem Slots.clear {M : Md} {B : Hp} {σ : L2.St} {ρ : Env} {i : Nat} (s : Slots M B σ ρ) : Slots M B (σ.set i none) (ρ.set i none) where
  len := by rw [List.length_set, List.length_set]; exact s.len
  get := fun j x e n => by
    by_cases q : i = j
    · subst q
      have hl : i < ρ.length := by
        have := (List.getElem?_eq_some_iff.mp e).1
        rw [List.length_set] at this; exact this
      rw [List.getElem?_set_self hl] at e
      cases e
    · rw [List.getElem?_set_ne q] at e ⊢
      exact s.get j x e n
/-- less is known -/
theorem Slots.less {M : Md} {B : Hp} {σ : L2.St} {ρ ρ' : Env} (s : Slots M B σ ρ) (hl : ρ'.length = ρ.length) (h : ∀ (i : Nat) (d : D), ρ'[i]? = some (some d) → ρ[i]? = some (some d)) : Slots M B σ ρ' :=
  ⟨by rw [hl]; exact s.len, fun i d e n => s.get i d (h i d e) n⟩
def startD (n : Nat) (ds : List D) : Env := ds.map some ++ List.replicate (n - ds.length) none
theorem Slots.ofStart {M : Md} {B : Hp} {N : List Str} {vs : List V} {ds : List D} (h : Dps M B vs ds) : Slots M B (L2.start N vs) (startD N.length ds) where
  len := by unfold L2.start startD; simp [h.length]
  get := fun i d e _ => by
    unfold startD at e
    unfold L2.start
    rw [List.getElem?_append] at e
    split at e
    · rename_i hi
      rw [List.length_map] at hi
      rw [List.getElem?_map] at e
      cases q : ds[i]? with
      | none => rw [q] at e; cases e
      | some x =>
        rw [q] at e
        cases e
        obtain ⟨v, h1, h2⟩ := h.get q
        refine ⟨v, ?_, h2⟩
        rw [List.getElem?_append_left (by rw [List.length_map, h.length]; exact hi), List.getElem?_map, h1]
        rfl
    · rw [List.getElem?_replicate] at e
      split at e <;> cases e
def wipeD (ρ : Env) : List Nat → Env
  | [] => ρ
  | v :: vs => (wipeD ρ vs).set v none
theorem Slots.wipe {M : Md} {B : Hp} {σ : L2.St} {ρ : Env} (s : Slots M B σ ρ) : ∀ vs : List Nat, Slots M B (L2.wipe σ vs) (wipeD ρ vs)
  | [] => s
  | _ :: vs => (Slots.wipe s vs).clear

/-! ### readings over data -/
abbrev DQ := Res → D → Prop
/-- of an exception: its class by name, its fields -/
abbrev DX := Res → Str → List (Str × D) → Prop
abbrev DT := Res → Env → DQ → DX → Prop
abbrev DA := Res → Env → (Res → List D → Prop) → DX → Prop
abbrev DB := Res → Env → (Res → Bool → Prop) → DX → Prop

/-- an exception's way out -/
def XL (M : Md) (W : WX) (B Fz : Hp) (σ : L2.St) (E : DX) : Prop :=
  ∀ (R : Res) (c : Str) (C dd : Addr) (H' B' : Hp) (vs : List (Str × V)) (fs : List (Str × D)), M.mg c = some (.ref C) → Ex B B' → Wd R B' Fz H' → B' dd = some (.xd vs) → Dpf M B' vs fs → E R c fs → W (.ref C) (some dd) σ H'
theorem XL.mono {M : Md} {W : WX} {B B1 Fz : Hp} {σ : L2.St} {E : DX} (x : XL M W B Fz σ E) (e : Ex B B1) : XL M W B1 Fz σ E :=
  fun R c C dd H' B' vs fs h1 h2 h3 h4 h5 h6 => x R c C dd H' B' vs fs h1 (e.trans h2) h3 h4 h5 h6
/-- what follows a value -/
def VP (M : Md) (R : Res) (B Fz : Hp) (Qd : D → Prop) (Q : VK) : Prop := ∀ (v : V) (H' B' : Hp) (d : D), Ex B B' → Wd R B' Fz H' → Dp M B' v d → Qd d → Q v H'
def VL (M : Md) (B Fz : Hp) (Qd : DQ) (Q : VK) : Prop := ∀ (R : Res) (v : V) (H' B' : Hp) (d : D), Ex B B' → Wd R B' Fz H' → Dp M B' v d → Qd R d → Q v H'
theorem VL.at {M : Md} {B Fz : Hp} {Qd : DQ} {Q : VK} (x : VL M B Fz Qd Q) (R : Res) : VP M R B Fz (Qd R) Q := fun v H' B' d h1 h2 h3 h4 => x R v H' B' d h1 h2 h3 h4
theorem VL.mono {M : Md} {B B1 Fz : Hp} {Qd : DQ} {Q : VK} (x : VL M B Fz Qd Q) (e : Ex B B1) : VL M B1 Fz Qd Q :=
  fun R v H' B' d h1 h2 h3 h4 => x R v H' B' d (e.trans h1) h2 h3 h4
theorem VP.mono {M : Md} {R : Res} {B B1 Fz : Hp} {Qd : D → Prop} {Q : VK} (x : VP M R B Fz Qd Q) (e : Ex B B1) : VP M R B1 Fz Qd Q :=
  fun v H' B' d h1 h2 h3 h4 => x v H' B' d (e.trans h1) h2 h3 h4

def lift (M : Md) (W : WX) (t : DT) : TE := fun σ H Q => ∃ (R : Res) (Fz B : Hp) (ρ : Env) (Qd : DQ) (E : DX), Wd R B Fz H ∧ Slots M B σ ρ ∧ t R ρ Qd E ∧ VL M B Fz Qd Q ∧ XL M W B Fz σ E
def liftA (M : Md) (W : WX) (t : DA) : TA := fun σ H Q => ∃ (R : Res) (Fz B : Hp) (ρ : Env) (Qd : Res → List D → Prop) (E : DX), Wd R B Fz H ∧ Slots M B σ ρ ∧ t R ρ Qd E ∧
  (∀ (R : Res) (v : List V) (H' B' : Hp) (d : List D), Ex B B' → Wd R B' Fz H' → Dps M B' v d → Qd R d → Q v H') ∧ XL M W B Fz σ E
def liftB (M : Md) (W : WX) (t : DB) : TT := fun σ H Q => ∃ (R : Res) (Fz B : Hp) (ρ : Env) (Qd : Res → Bool → Prop) (E : DX), Wd R B Fz H ∧ Slots M B σ ρ ∧ t R ρ Qd E ∧
  (∀ (R : Res) (b : Bool) (H' B' : Hp), Ex B B' → Wd R B' Fz H' → Qd R b → Q b H') ∧ XL M W B Fz σ E

abbrev DE (X : Cx) (W : WX) (e : Expr) (t : DT) : Prop := PE X e (lift X.md W t)
abbrev DAs (X : Cx) (W : WX) (es : List Expr) (t : DA) : Prop := PA X es (liftA X.md W t)
abbrev DTt (X : Cx) (W : WX) (e : Expr) (t : DB) : Prop := PT X e (liftB X.md W t)
theorem _root_.L2.PE.imp {X : Cx} {e : Expr} {t t' : TE} (h : PE X e t) (f : ∀ σ H Q, t' σ H Q → t σ H Q) : PE X e t' := ⟨fun pins s σ H Q I q => h.run pins s σ H Q I (f σ H Q q)⟩
theorem _root_.L2.PA.imp {X : Cx} {e : List Expr} {t t' : TA} (h : PA X e t) (f : ∀ σ H Q, t' σ H Q → t σ H Q) : PA X e t' := ⟨fun pos pins s σ H Q I q => h.run pos pins s σ H Q I (f σ H Q q)⟩
theorem _root_.L2.PT.imp {X : Cx} {e : Expr} {t t' : TT} (h : PT X e t) (f : ∀ σ H Q, t' σ H Q → t σ H Q) : PT X e t' := ⟨fun pins s σ H Q I q => h.run pins s σ H Q I (f σ H Q q)⟩
theorem _root_.L2.PS.imp {X : Cx} {e : Stmt} {t t' : TS} (h : PS X e t) (f : ∀ D σ H, t' D σ H → t D σ H) : PS X e t' := ⟨fun pins s σ H D I q => h.run pins s σ H D I (f D σ H q)⟩
theorem _root_.L2.PSs.imp {X : Cx} {e : List Stmt} {t t' : TS} (h : PSs X e t) (f : ∀ D σ H, t' D σ H → t D σ H) : PSs X e t' := ⟨fun pins s σ H D I q => h.run pins s σ H D I (f D σ H q)⟩

section
variable {X : Cx} {W : WX} {a b e : Expr} {es : List Expr} {ta tb t : DT} {pos : Pos}
def dVar (i : Nat) : DT := fun R ρ Q _ => ∃ d, ρ[i]? = some (some d) ∧ d.isOwn = false ∧ Q R d
def dC (d : D) : DT := fun R _ Q _ => Q R d
theorem de_var (i : Nat) {x : Str} (hN : X.N[i]? = some x := by rfl) (hv : Vis X.env.scope x := by first | exact Or.inl rfl | exact Or.inr (Or.inl rfl) | exact Or.inr (Or.inr rfl)) (hd : (x == ("__debug__" : Str)) = false := by decide)
    (hcd : (x == ("__classdict__" : Str)) = false := by decide) : DE X W (.Name x pos) (dVar i) :=
  (pe_var hN hv hd hcd).imp fun σ H Q ⟨R, Fz, B, ρ, Qd, E, w, sl, ⟨d, hd, hn, q⟩, k, _⟩ =>
    let ⟨v, h1, h2⟩ := sl.get i d hd hn
    ⟨v, h1, k R v H B d (Ex.refl B) w h2 q⟩
theorem de_c {v : V} {d : D} (h : PE X e (tC v)) (hv : ∀ B, Dp X.md B v d) : DE X W e (dC d) :=
  h.imp fun σ H Q ⟨R, Fz, B, ρ, Qd, E, w, sl, q, k, _⟩ => k R v H B d (Ex.refl B) w (hv B) q
theorem de_int {i j} : DE X W (.Constant (.int i) j pos) (dC (.int i)) := de_c pe_int fun _ => .int i
theorem de_bl {b j} : DE X W (.Constant (.bool b) j pos) (dC (.bl b)) := de_c pe_bl fun _ => .bl b
theorem de_non {j} : DE X W (.Constant .none j pos) (dC .non) := de_c pe_non fun _ => .non
theorem de_str {x j} : DE X W (.Constant (.str x) j pos) (dC (.str x)) := de_c pe_str fun _ => .str x
theorem de_gint {x : Str} {i : Int} {u : Tok} (hg : Gl X x) (hm : X.mg x = some (.int i u)) (hd : (x == ("__debug__" : Str)) = false := by decide) : DE X W (.Name x pos) (dC (.int i)) := de_c (pe_glob (v := .int i) hg hm ⟨u, rfl⟩ hd) fun _ => .int i
theorem de_gstr {x : Str} {i : Str} {u : Tok} (hg : Gl X x) (hm : X.mg x = some (.str i u)) (hd : (x == ("__debug__" : Str)) = false := by decide) : DE X W (.Name x pos) (dC (.str i)) := de_c (pe_glob (v := .str i) hg hm ⟨u, rfl⟩ hd) fun _ => .str i

/-! ### operators -/
abbrev F2 := D → D → (D → Prop) → Prop
def OpD (M : Md) (r : R2) (f : F2) : Prop := ∀ (R : Res) (Fz B H : Hp) (x y : V) (dx dy : D) (Qd : D → Prop) (Q : VK), Wd R B Fz H → Dp M B x dx → Dp M B y dy → f dx dy Qd → VP M R B Fz Qd Q → r x y H Q
def dBin (f : F2) (ta tb : DT) : DT := fun R ρ Q E => ta R ρ (fun R x => tb R ρ (fun R y => f x y (Q R)) E) E
/-- two operands in turn -/
theorem lift2 {M : Md} {r : R2} {f : F2} (hf : OpD M r f) {σ : L2.St} {H : Hp} {Q : VK} (h : lift M W (dBin f ta tb) σ H Q) : tOp r (lift M W ta) (lift M W tb) σ H Q := by
  obtain ⟨R, Fz, B, ρ, Qd, E, w, sl, q, k, x⟩ := h
  refine ⟨R, Fz, B, ρ, _, E, w, sl, q, fun R1 v H1 B1 d e1 w1 h1 q1 => ?_, x⟩
  refine ⟨R1, Fz, B1, ρ, _, E, w1, sl.mono e1, q1, fun R2 u H2 B2 d2 e2 w2 h2 q2 => ?_, x.mono e1⟩
  exact hf R2 Fz B2 H2 v u d d2 _ Q w2 (h1.mono e2) h2 q2 ((k.mono (e1.trans e2)).at R2)
theorem de_bin {op : Operator} {r : R2} {f : F2} (ho : OpR X (binaryOp op) r) (hf : OpD X.md r f) (ha : DE X W a ta) (hb : DE X W b tb) : DE X W (.BinOp a op b pos) (dBin f ta tb) :=
  (pe_op ho ha hb).imp fun _ _ _ h => lift2 hf h
theorem de_cmp {op : CmpOp} {r : R2} {f : F2} (ho : OpR X (compareOp op) r) (hf : OpD X.md r f) (ha : DE X W a ta) (hb : DE X W b tb) (hm : behindInMarks op b = false) : DE X W (.Compare a [op] [b] pos) (dBin f ta tb) :=
  (pe_cmpR ho ha hb hm).imp fun _ _ _ h => lift2 hf h
def dTest (t : DT) : DB := fun R ρ Q E => t R ρ (fun R d => ∃ b, d = .bl b ∧ Q R b) E
theorem Dp.ofBl {M : Md} {B : Hp} {v : V} {b : Bool} (h : Dp M B v (.bl b)) : v = .bl b := by cases h; rfl
theorem Dp.ofInt {M : Md} {B : Hp} {v : V} {b : Int} (h : Dp M B v (.int b)) : v = .int b := by cases h; rfl
theorem Dp.ofStr {M : Md} {B : Hp} {v : V} {b : Str} (h : Dp M B v (.str b)) : v = .str b := by cases h; rfl
theorem Dp.ofNon {M : Md} {B : Hp} {v : V} (h : Dp M B v .non) : v = .non := by cases h; rfl
theorem dt_cmp {op : CmpOp} {r : R2} {f : F2} (ho : OpR X (compareOp op) r) (hf : OpD X.md r f) (ha : DE X W a ta) (hb : DE X W b tb) (hm : behindInMarks op b = false) : DTt X W (.Compare a [op] [b] pos) (dTest (dBin f ta tb)) :=
  (pt_cmpR ho ha hb hm).imp fun σ H Q ⟨R, Fz, B, ρ, Qd, E, w, sl, q, k, x⟩ =>
    lift2 hf ⟨R, Fz, B, ρ, _, E, w, sl, q, fun R v H1 B1 d e1 w1 h1 ⟨b, hb, q1⟩ => by subst hb; exact ⟨b, h1.ofBl, k R b H1 B1 e1 w1 q1⟩, x⟩
end
end DL

set_option Elab.async false
set_option linter.all false
set_option maxRecDepth 100000
set_option maxHeartbeats 400000
namespace DL
open PySem L2 PySem.Spec PyProof.Rows
/-! ### new tuples, with their object told -/
section
variable {X : Cx} {e : Expr} {es : List Expr} {t : TA} {pos : Pos}
theorem laid_tup {pins : List (Addr × Obj)} {σ : L2.St} {H : Hp} {s : Shared} {xs : List V} {us : List Value} {n : Nat} (I : Inv X pins σ H s) (r : Vals xs us) (z : xs.length ≤ sizeLine) :
    Inv X pins σ (upd H s.heap.objs.size (.frz { cls := .type "tuple", data := .seq us.toArray n } (.tup xs))) { s with heap := s.heap.push { cls := .type "tuple", data := .seq us.toArray n } } :=
  I.laid (t' := s.toks) (fun b u e => Heap.get?_push_of_some _ e) (Nat.le_refl _) ⟨Heap.get?_push_size _ rfl, z, us, r, ⟨_, Heap.get?_push_size _ rfl, rfl, _, rfl⟩⟩
def tTupF (t : TA) : TE := fun σ H Q => t σ H fun xs H1 => xs.length ≤ sizeLine ∧ ∀ p (o : Obj), H1 p = none → o.dict = none → Q (.ref p) (upd H1 p (.frz o (.tup xs)))
theorem pe_tupF {k} (h : PA X es t) : PE X (.Tuple es k pos) (tTupF t) := ⟨fun pins s σ H Q I hq =>
  wpAny_Tuple_spliced (thn (h.run pos pins s σ H _ I hq) fun us s1 ⟨xs, H1, I1, r, z, q⟩ => ⟨by rw [← r.length]; exact z, .ref _, _, laid_tup I1 r z, rfl, q _ _ (I1.hok.fresh (Nat.le_refl _)) rfl⟩)⟩
def rCatF (K : PySem.W.Frag) : R2 := fun x y H Q => ∃ a b xs ys, x = .ref a ∧ y = .ref b ∧ SqT K H a xs ∧ SqT K H b ys ∧ xs.length + ys.length ≤ sizeLine ∧
  (xs = [] → Q (.ref b) H) ∧ (xs ≠ [] → ys = [] → Q (.ref a) H) ∧ (xs ≠ [] → ys ≠ [] → ∀ p (o : Obj), H p = none → o.dict = none → Q (.ref p) (upd H p (.frz o (.tup (xs ++ ys)))))
theorem op_catF : OpR X (binaryOp .Add) (rCatF X.K) := by
  rintro pins s σ H _ _ v u Q I rx ry ⟨a, b, xs, ys, rfl, rfl, ha, hb, hz, q0, q1, q2⟩
  obtain ⟨its, r1, p1, _⟩ := I.tuple ha
  obtain ⟨its2, r2, p2, _⟩ := I.tuple hb
  have hz' : (xs ++ ys).length ≤ sizeLine := by rw [List.length_append]; exact hz
  cases rx; cases ry
  by_cases hx : xs = []
  · subst hx
    cases r1
    exact cat_tup0 p1 p2 ⟨.ref b, H, I, rfl, q0 rfl⟩
  · exact HT.cat_tup p1 p2 (fun z => hx (r1.nil_iff.mp z)) (fun z => ⟨.ref a, H, I, rfl, q1 hx (r2.nil_iff.mp z)⟩) (fun z => ⟨.ref _, _, laid_tup I (r1.append r2) hz', rfl, q2 hx (fun c => z (r2.nil_iff.mpr c)) _ _ (I.hok.fresh (Nat.le_refl _)) rfl⟩) (by rw [← r1.length, ← r2.length]; exact hz)
def rSlF (K : PySem.W.Frag) : V → Option Int → Option Int → Hp → VK → Prop := fun x lo hi H Q => ∃ a xs, x = .ref a ∧ SqT K H a xs ∧
  (HT.sIx xs.length 0 lo = 0 ∧ HT.sIx xs.length xs.length hi = xs.length → Q (.ref a) H) ∧ (¬ (HT.sIx xs.length 0 lo = 0 ∧ HT.sIx xs.length xs.length hi = xs.length) → ∀ p (o : Obj), H p = none → o.dict = none → Q (.ref p) (upd H p (.frz o (.tup (cutV xs lo hi)))))
theorem sl_tupF : SlR X (rSlF X.K) := by
  rintro pins s σ H _ v vl vu lo hi sl Q I rx hs pl pu ⟨a, xs, rfl, hx, q1, q2⟩
  obtain ⟨its, r, ht, hz⟩ := I.tuple hx
  have hlen : its.toArray.size = xs.length := by rw [List.size_toArray]; exact r.length.symm
  cases rx
  refine ⟨"tuple", _, PyProof.Rows.slot_tuple_getitem.lookup, ht.typeIs, ?_⟩
  by_cases hw : HT.sIx xs.length 0 lo = 0 ∧ HT.sIx xs.length xs.length hi = xs.length
  · exact getItem_tuple_whole ht hs pl pu (by rw [hlen]; exact hw) ⟨.ref a, H, I, rfl, q1 hw⟩
  · refine HT.getItem_tuple_cut ht hs pl pu (by rw [hlen]; exact hw) ?_ (by rw [hlen]; exact hz)
    rw [hlen]
    exact ⟨.ref _, _, laid_tup I ((r.drop (HT.sIx xs.length 0 lo)).take (HT.sIx xs.length xs.length hi - HT.sIx xs.length 0 lo)) (Nat.le_trans (cutV_length xs lo hi) hz), rfl, q2 hw _ _ (I.hok.fresh (Nat.le_refl _)) rfl⟩
theorem call_tupleF : CallR X (.type "tuple") (fun xs H Q => ∃ p ys, xs = [.ref p] ∧ ((SqL X.K H p ys ∧ ∀ l (o : Obj), H l = none → o.dict = none → Q (.ref l) (upd H l (.frz o (.tup ys)))) ∨ (SqT X.K H p ys ∧ Q (.ref p) H))) := by
  rintro pins s σ H _ us Q I r ⟨p, ys, rfl, h⟩
  obtain ⟨u, rfl, rx⟩ := vals1 r
  cases rx
  rcases h with ⟨hq, q⟩ | ⟨hq, q⟩
  · obtain ⟨its, r', pl, hz⟩ := I.list hq
    refine call_tuple_list pl.isList (fun h' kp => ?_) (by rw [List.size_toArray, ← r'.length]; exact hz)
    have I1 : Inv X pins σ H { s with heap := h' } := I.kept (t' := s.toks) kp
    exact ⟨.ref _, _, laid_tup I1 r' hz, rfl, q _ _ (I1.hok.fresh (Nat.le_refl _)) rfl⟩
  · obtain ⟨its, r', pl, hz⟩ := I.tuple hq
    exact call_tuple_same pl ⟨.ref p, H, I, rfl, q⟩
end
end DL

set_option Elab.async false
set_option linter.all false
set_option maxRecDepth 100000
set_option maxHeartbeats 400000
namespace DL
open PySem L2

/-! ### data that Python's own comparisons know -/
mutual
def D.py : D → PyData
  | .non => .none | .bl b => .bool b | .int i => .int i | .str x => .str x
  | .tup ds => .tuple (D.pys ds) | .lst ds => .list (D.pys ds) | .frl ds => .list (D.pys ds) | .tpw ds => .tuple (D.pys ds) | .dct kvs => .dict (D.pyk kvs)
  | .obj _ _ => .none | .exc _ _ => .none | .cls _ => .none | .ref _ => .none | .ty _ => .none | .own _ => .none
def D.pys : List D → List PyData
  | [] => [] | d :: r => d.py :: D.pys r
def D.pyk : List (D × D) → List (PyData × PyData)
  | [] => [] | (k, d) :: r => (k.py, d.py) :: D.pyk r
end
mutual
/-- no dict, no object in it -/
def D.pure : D → Bool
  | .non => true | .bl _ => true | .int _ => true | .str _ => true
  | .tup ds => D.pures ds | .lst ds => D.pures ds | .frl _ => false | .tpw _ => false | .dct _ => false
  | .obj _ _ => false | .exc _ _ => false | .cls _ => false | .ref _ => false | .ty _ => false | .own _ => false
def D.pures : List D → Bool
  | [] => true | d :: r => d.pure && D.pures r
end
mutual
theorem Dp.py' {M : Md} {B : Hp} : ∀ (d : D) {v : V}, Dp M B v d → d.pure = true → L2.Dp M.K B v d.py
  | .non, _, h, _ => by cases h; exact .non
  | .bl b, _, h, _ => by cases h; exact .bl b
  | .int i, _, h, _ => by cases h; exact .int i
  | .str x, _, h, _ => by cases h; exact .str x
  | .tup ds, _, h, p => by
    cases h with
    | tup s h => exact .tup s.st (Dps.py' ds h p)
  | .lst ds, _, h, p => by
    cases h with
    | lst s h => exact .lst (.inl (.inl s)) (Dps.py' ds h p)
  | .frl _, _, _, p => nomatch p
  | .tpw _, _, _, p => nomatch p
  | .dct _, _, _, p => nomatch p
  | .obj _ _, _, _, p => nomatch p
  | .exc _ _, _, _, p => nomatch p
  | .cls _, _, _, p => nomatch p
  | .ref _, _, _, p => nomatch p
  | .ty _, _, _, p => nomatch p
  | .own _, _, _, p => nomatch p
theorem Dps.py' {M : Md} {B : Hp} : ∀ (d : List D) {v : List V}, Dps M B v d → D.pures d = true → L2.DpAll M.K B v (D.pys d)
  | [], _, h, _ => by cases h; exact .nil
  | d :: r, _, h, p => by
    cases h with
    | cons h t =>
      have q := Bool.and_eq_true_iff.mp p
      exact .cons (Dp.py' d h q.1) (Dps.py' r t q.2)
end
theorem Dp.py {M : Md} {B : Hp} {v : V} {d : D} (h : Dp M B v d) (p : d.pure = true) : L2.Dp M.K B v d.py := Dp.py' d h p
theorem Dps.py {M : Md} {B : Hp} {v : List V} {d : List D} (h : Dps M B v d) (p : D.pures d = true) : L2.DpAll M.K B v (D.pys d) := Dps.py' d h p
mutual
theorem dp2_mono {K : PySem.W.Frag} {B B' : Hp} (e : Ex B B') : ∀ {v : V} {d : PyData}, L2.Dp K B v d → L2.Dp K B' v d
  | _, _, .non => .non
  | _, _, .bl b => .bl b
  | _, _, .int i => .int i
  | _, _, .str x => .str x
  | _, _, .lst s h => .lst (e.sl s) (dp2s_mono e h)
  | _, _, .tup s h => .tup (e.st s) (dp2s_mono e h)
theorem dp2s_mono {K : PySem.W.Frag} {B B' : Hp} (e : Ex B B') : ∀ {v : List V} {d : List PyData}, L2.DpAll K B v d → L2.DpAll K B' v d
  | _, _, .nil => .nil
  | _, _, .cons h t => .cons (dp2_mono e h) (dp2s_mono e t)
end
theorem pys_map (ds : List D) : D.pys ds = ds.map D.py := by
  induction ds with
  | nil => rfl
  | cons d r ih => rw [D.pys, ih]; rfl
/-- may be compared whatever it is with -/
def D.fit (d : D) : Bool := d.pure && SeqAt.shaped d.py
def D.eqv (d e : D) : Bool := PyData.eqv d.py e.py

section
variable {X : Cx} {W : WX} {a b c e : Expr} {es : List Expr} {ta tb tc t : DT} {pos : Pos}
/-! ### + - * // % -/
def fAdd : F2
  | .int i, .int j, Q => Q (.int (i + j))
  | .str x, .str y, Q => x.length + y.length ≤ sizeLine ∧ Q (.str (x ++ y))
  | .tup x, .tup y, Q => x.length + y.length ≤ sizeLine ∧ Q (.tup (x ++ y))
  | .lst x, .lst y, Q => x.length + y.length ≤ sizeLine ∧ Q (.lst (x ++ y))
  | _, _, _ => False
def rAddS : R2 := fun x y H Q => ∃ i j, x = .str i ∧ y = .str j ∧ i.length + j.length ≤ sizeLine ∧ Q (.str (i ++ j)) H
abbrev rAddAll (K : PySem.W.Frag) : R2 := fun x y H Q => (rI0 fun i j => .int (i + j)) x y H Q ∨ (fun x y H Q => rAddS x y H Q ∨ (fun x y H Q => rCatF K x y H Q ∨ rCat x y H Q) x y H Q) x y H Q
theorem opAdd : OpR X (binaryOp .Add) (rAddAll X.K) := op_add.or ((show OpR X (binaryOp .Add) rAddS from op_add_str).or (op_catF.or op_cat))
theorem fAdd_ok {M : Md} : OpD M (rAddAll M.K) fAdd := by
  intro R Fz B H x y dx dy Qd Q w hx hy h k
  unfold fAdd at h
  split at h
  · cases hx; cases hy
    exact .inl ⟨_, _, rfl, rfl, k _ H B _ (Ex.refl B) w (.int _) h⟩
  · cases hx; cases hy
    exact .inr (.inl ⟨_, _, rfl, rfl, h.1, k _ H B _ (Ex.refl B) w (.str _) h.2⟩)
  · cases hx with
    | @tup a xs _ sx hx =>
    cases hy with
    | @tup b ys _ sy hy =>
    have l1 := hx.length
    have l2 := hy.length
    refine .inr (.inr (.inl ⟨a, b, xs, ys, rfl, rfl, w.ex.st sx.st, w.ex.st sy.st, by omega, fun e => ?_, fun _ e => ?_, fun _ _ p o hp ho => ?_⟩))
    · subst e; cases hx
      exact k _ H B _ (Ex.refl B) w (.tup sy hy) h.2
    · subst e; cases hy
      refine k _ H B _ (Ex.refl B) w (.tup sx hx) ?_
      have := h.2; rwa [List.append_nil] at this
    · exact k _ _ _ _ (Ex.new (w.free hp)) (w.new hp) (.tup (.new ho) ((hx.append hy).mono (Ex.new (w.free hp)))) h.2
  · cases hx with
    | @lst a xs _ sx hx =>
    cases hy with
    | @lst b ys _ sy hy =>
    have l1 := hx.length
    have l2 := hy.length
    refine .inr (.inr (.inr ⟨a, b, xs, ys, rfl, rfl, w.ex _ _ sx, w.ex _ _ sy, by omega, fun p hp => ?_⟩))
    exact k _ _ _ _ (Ex.new (w.free hp)) (w.new hp) (.lst upd_same ((hx.append hy).mono (Ex.new (w.free hp)))) h.2
  · exact h.elim
theorem de_add (ha : DE X W a ta) (hb : DE X W b tb) : DE X W (.BinOp a .Add b pos) (dBin fAdd ta tb) := de_bin opAdd fAdd_ok ha hb

def fI (C : Int → Int → Prop) (g : Int → Int → D) : F2
  | .int i, .int j, Q => C i j ∧ Q (g i j)
  | _, _, _ => False
theorem fI_ok {M : Md} {C : Int → Int → Prop} {g : Int → Int → Int} : OpD M (rI C fun i j => .int (g i j)) (fI C fun i j => .int (g i j)) := by
  intro R Fz B H x y dx dy Qd Q w hx hy h k
  unfold fI at h
  split at h
  · cases hx; cases hy
    exact ⟨_, _, rfl, rfl, h.1, k _ H B _ (Ex.refl B) w (.int _) h.2⟩
  · exact h.elim
theorem fI0_ok {M : Md} {g : Int → Int → Int} : OpD M (rI0 fun i j => .int (g i j)) (fI (fun _ _ => True) fun i j => .int (g i j)) := by
  intro R Fz B H x y dx dy Qd Q w hx hy h k
  unfold fI at h
  split at h
  · cases hx; cases hy
    exact ⟨_, _, rfl, rfl, k _ H B _ (Ex.refl B) w (.int _) h.2⟩
  · exact h.elim
theorem fIB_ok {M : Md} {g : Int → Int → Bool} : OpD M (rI0 fun i j => .bl (g i j)) (fI (fun _ _ => True) fun i j => .bl (g i j)) := by
  intro R Fz B H x y dx dy Qd Q w hx hy h k
  unfold fI at h
  split at h
  · cases hx; cases hy
    exact ⟨_, _, rfl, rfl, k _ H B _ (Ex.refl B) w (.bl _) h.2⟩
  · exact h.elim
abbrev fSub : F2 := fI (fun _ _ => True) fun i j => .int (i - j)
theorem de_sub (ha : DE X W a ta) (hb : DE X W b tb) : DE X W (.BinOp a .Sub b pos) (dBin fSub ta tb) := de_bin op_sub fI0_ok ha hb
abbrev fMod : F2 := fI (fun _ j => 0 < j) fun i j => .int (i % j)
theorem de_mod (ha : DE X W a ta) (hb : DE X W b tb) : DE X W (.BinOp a .Mod b pos) (dBin fMod ta tb) := de_bin op_mod fI_ok ha hb
abbrev fDiv : F2 := fI CDiv fun i j => .int (i / j)
theorem de_div (ha : DE X W a ta) (hb : DE X W b tb) : DE X W (.BinOp a .FloorDiv b pos) (dBin fDiv ta tb) := de_bin op_fdiv fI_ok ha hb
abbrev fPow : F2 := fI CPow fun i j => .int (i ^ j.toNat)
theorem de_pow (ha : DE X W a ta) (hb : DE X W b tb) : DE X W (.BinOp a .Pow b pos) (dBin fPow ta tb) := de_bin op_pow fI_ok ha hb

/-! ### comparisons of ints and texts -/
def fOrd (p : Int → Int → Bool) (q : List Nat → List Nat → Bool) : F2
  | .int i, .int j, Q => Q (.bl (p i j))
  | .str x, .str y, Q => Q (.bl (q x.cps.toList y.cps.toList))
  | _, _, _ => False
def rOrd (p : Int → Int → Bool) (q : List Nat → List Nat → Bool) : R2 := fun x y H Q => (rI0 fun i j => .bl (p i j)) x y H Q ∨ (fun x y H Q => ∃ i j : Str, x = .str i ∧ y = .str j ∧ Q (.bl (q i.cps.toList j.cps.toList)) H) x y H Q
theorem fOrd_ok {M : Md} {p : Int → Int → Bool} {q : List Nat → List Nat → Bool} : OpD M (rOrd p q) (fOrd p q) := by
  intro R Fz B H x y dx dy Qd Q w hx hy h k
  unfold fOrd at h
  split at h
  · cases hx; cases hy
    exact .inl ⟨_, _, rfl, rfl, k _ H B _ (Ex.refl B) w (.bl _) h⟩
  · cases hx; cases hy
    exact .inr ⟨_, _, rfl, rfl, k _ H B _ (Ex.refl B) w (.bl _) h⟩
  · exact h.elim
abbrev fLt : F2 := fOrd (fun i j => decide (i < j)) (fun x y => decide (x < y))
abbrev fLe : F2 := fOrd (fun i j => decide (i ≤ j)) (fun x y => !decide (y < x))
abbrev fGt : F2 := fOrd (fun i j => decide (j < i)) (fun x y => decide (y < x))
abbrev fGe : F2 := fOrd (fun i j => decide (j ≤ i)) (fun x y => !decide (x < y))

end
end DL

set_option Elab.async false
set_option linter.all false
set_option maxRecDepth 100000
set_option maxHeartbeats 400000
namespace DL
open PySem L2

/-! ### equality -/
theorem fit_pure {d : D} (h : d.fit = true) : d.pure = true := (Bool.and_eq_true_iff.mp h).1
theorem fit_shaped {d : D} (h : d.fit = true) : SeqAt.shaped d.py = true := (Bool.and_eq_true_iff.mp h).2
section
variable {X : Cx} {pins : List (Addr × Obj)} {σ : L2.St} {H B : Hp} {s : Shared}
theorem eqAt_fit (I : Inv X pins σ H s) (ex : Ex B H) {A : Around} {x y : V} {u v : Value} {dx dy : D} (hx : Dp X.md B x dx) (hy : Dp X.md B y dy) (rx : RelV x u) (ry : RelV y v) (fx : dx.fit = true) (fy : dy.fit = true)
    (hu : A.units + 64 < cLine) : SeqAt.EqAt A s u v (dx.eqv dy) := by
  obtain ⟨as, r1⟩ := L2.Dp.reads I dx.py x u (dp2_mono ex (hx.py (fit_pure fx))) rx
  obtain ⟨bs, r2⟩ := L2.Dp.reads I dy.py y v (dp2_mono ex (hy.py (fit_pure fy))) ry
  exact SeqAt.eqAt_reads _ _ A s u v as bs r1 r2 (SeqAt.canLay_of_shaped (fit_shaped fx)) (SeqAt.canLay_of_shaped (fit_shaped fy)) (SeqAt.room_of_shaped (fit_shaped fx) hu)
theorem str_eq_dict (b : Str) (u : Tok) (l : Addr) (es : Array DictEntry) (n : Nat) (dd : Option Addr) (sl : Array (Option Value)) :
    Meets (Builtin.«str.__eq__» ⟨[.str b u, .ref l], []⟩) (fun _ R s => s.heap.get? l = some { cls := .type "dict", dict := dd, data := .dict es n, slots := sl } ∧ R (.ok (.ret .notImplemented)) s) :=
  .of_wp fun prog w A R s h => by
    obtain ⟨hp, g, d, tk, os⟩ := s
    obtain ⟨hl, h⟩ := h
    wp_walk using wpAny_load hl, wpAny_loadPart' hl
    exact ⟨_, rfl, h⟩
theorem dict_eq_str (b : Str) (u : Tok) (l : Addr) (es : Array DictEntry) (n : Nat) (dd : Option Addr) (sl : Array (Option Value)) :
    Meets (Builtin.«dict.__eq__» ⟨[.ref l, .str b u], []⟩) (fun _ R s => s.heap.get? l = some { cls := .type "dict", dict := dd, data := .dict es n, slots := sl } ∧ R (.ok (.ret .notImplemented)) s) :=
  .of_wp fun prog w A R s h => by
    obtain ⟨hp, g, d, tk, os⟩ := s
    obtain ⟨hl, h⟩ := h
    have f1 := F.sub_str_dict
    wp_walk using wpAny_load hl, wpAny_loadPart' hl
    exact ⟨_, rfl, h⟩
theorem eqAt_str_dict {A : Around} {l : Addr} {es : Array DictEntry} {n : Nat} {o : Obj} (b : Str) (u : Tok) (ho : s.heap.get? l = some o) (hc : o.cls = .type "dict") (hd : o.data = .dict es n) (hu : A.units < cLine) : SeqAt.EqAt A s (.str b u) (.ref l) false := fun prog w E Q h => by
  obtain ⟨cls, dd, data, sl⟩ := o
  simp only at hc hd
  subst hc hd
  unfold eqBool
  refine wpAny_holding (wpAny_ite_split (fun hab => absurd (eq_of_beq hab) nofun) (fun _ => wpAny_bind ?_))
  exact SeqAt.rc_eq_decline_or (k := false) (typeIs_str s b u) ⟨_, ho, rfl⟩ (by decide) F.sub_dict_str F.slot_str_eq F.slot_dict_eq_refl
    (fun _ hq => call_meets F.slot_str_eq (typeIs_str s b u) F.entry_str_eq (F.args_str_eq_2 _ _) (str_eq_dict b u l es n dd sl) ⟨ho, hq⟩)
    (fun _ hq => call_meets F.slot_dict_eq_refl ⟨_, ho, rfl⟩ F.entry_dict_eq (F.args_dict_eq_2 _ _) (dict_eq_str b u l es n dd sl) ⟨ho, hq⟩)
    (fun _ hq => wpAny_of_eq (rfl : isSame (.str b u) (.ref l) = pure false) hq) (.inr hu) (wpAny_truthy_bool h)
end

def eqOk (y x : D) : Bool := (y.fit && x.fit) || (match y, x with | .str _, .tup _ => true | .str _, .lst _ => true | .str _, .dct _ => true | _, _ => false)
section
variable {X : Cx} {pins : List (Addr × Obj)} {σ : L2.St} {H B : Hp} {s : Shared}
theorem eqAt_d (I : Inv X pins σ H s) (ex : Ex B H) {A : Around} {x y : V} {u v : Value} {dx dy : D} (hx : Dp X.md B x dx) (hy : Dp X.md B y dy) (rx : RelV x u) (ry : RelV y v) (ok : eqOk dx dy = true)
    (hu : A.units + 64 < cLine) : SeqAt.EqAt A s u v (dx.eqv dy) := by
  unfold eqOk at ok
  rcases Bool.or_eq_true_iff.mp ok with h | h
  · exact eqAt_fit I ex hx hy rx ry (Bool.and_eq_true_iff.mp h).1 (Bool.and_eq_true_iff.mp h).2 hu
  · have hu' : A.units < cLine := by omega
    split at h
    · cases hx
      obtain ⟨t, rfl⟩ := rx
      cases hy with
      | tup sy _ =>
        cases ry
        obtain ⟨its, rv, ⟨o, ho, hc, n, hd⟩, _⟩ := I.tuple (ex.st sy.st)
        exact SeqAt.EqAt.str_tuple _ t ⟨o, ho, hc, n, hd⟩ hu'
    · cases hx
      obtain ⟨t, rfl⟩ := rx
      cases hy with
      | lst sy _ =>
        cases ry
        obtain ⟨its, rv, ⟨o, n, ho, hc, _, hd⟩, _⟩ := I.list (SqL.of (ex _ _ sy))
        exact SeqAt.EqAt.str_list _ t ⟨o, ho, hc, n, hd⟩ hu'
    · cases hx
      obtain ⟨t, rfl⟩ := rx
      cases hy with
      | dct sy _ =>
        cases ry
        obtain ⟨_, _, vs, _, o, es, ep, ho, ⟨hc, _⟩, hd, _⟩ := I.hok _ _ (ex _ _ sy)
        exact eqAt_str_dict _ t ho hc hd hu'
    · cases h
end

section
variable {X : Cx} {W : WX} {a b c e : Expr} {es : List Expr} {ta tb tc t : DT} {pos : Pos}
/-- by the data: what the operands say in B is what is asked; for rules that lean on the state itself -/
def rOf (M : Md) (f : F2) : R2 := fun x y H Q => ∃ (R : Res) (Fz B : Hp) (dx dy : D) (Qd : D → Prop), Wd R B Fz H ∧ Dp M B x dx ∧ Dp M B y dy ∧ f dx dy Qd ∧ VP M R B Fz Qd Q
theorem rOf_ok {M : Md} {f : F2} : OpD M (rOf M f) f := fun R Fz B H x y dx dy Qd Q w hx hy h k => ⟨R, Fz, B, dx, dy, Qd, w, hx, hy, h, k⟩

def fEqB (neg : Bool) : F2
  | .tup x, .tup [], Q => Q (.bl (x.isEmpty != neg))
  | .lst x, .lst [], Q => Q (.bl (x.isEmpty != neg))
  | x, y, Q => x.fit = true ∧ y.fit = true ∧ Q (.bl (x.eqv y != neg))
theorem rel_bl {b : Bool} : RelV (.bl b) (.bool b) := rfl
theorem opEq (hu : X.A.units + 64 < cLine) : OpR X (compareOp .Eq) (rOf X.md (fEqB false)) := by
  intro pins s σ H x y v u Q I rx ry ⟨R, Fz, B, dx, dy, Qd, w, hx, hy, h, k⟩
  unfold fEqB at h
  split at h
  · rename_i ds
    cases hx with
    | @tup a xs _ sx hx =>
    cases hy with
    | @tup b ys _ sy hy =>
    cases hy
    cases rx
    cases ry
    obtain ⟨its, rv, ⟨o, ho, hc, n, hd⟩, _⟩ := I.tuple (w.ex.st sx.st)
    obtain ⟨its2, rv2, ⟨o2, ho2, hc2, n2, hd2⟩, _⟩ := I.tuple (w.ex.st sy.st)
    cases rv2
    refine SeqAt.eq_tupleAt (e := fun _ => true) ⟨o, ho, hc, n, hd⟩ ⟨o2, ho2, hc2, n2, hd2⟩ (by omega) (fun j _ h2 => absurd h2 (by simp)) ⟨_, H, I, rel_bl, k _ H B _ (Ex.refl B) w (.bl _) ?_⟩
    have l1 : its.length = ds.length := rv.length.symm.trans hx.length
    have e : (((List.range (min its.toArray.size ([] : List Value).toArray.size)).all fun _ => true) && its.toArray.size == ([] : List Value).toArray.size) = (ds.isEmpty != false) := by
      cases ds with
      | nil => cases its with
        | nil => rfl
        | cons _ _ => simp at l1
      | cons _ _ => cases its with
        | nil => simp at l1
        | cons _ _ => simp
    rw [e]; exact h
  · rename_i ds
    cases hx with
    | @lst a xs _ sx hx =>
    cases hy with
    | @lst b ys _ sy hy =>
    cases hy
    cases rx
    cases ry
    obtain ⟨its, rv, ⟨o, n, ho, hc, _, hd⟩, _⟩ := I.list (SqL.of (w.ex _ _ sx))
    obtain ⟨its2, rv2, ⟨o2, n2, ho2, hc2, _, hd2⟩, _⟩ := I.list (SqL.of (w.ex _ _ sy))
    cases rv2
    have l1 : its.length = ds.length := rv.length.symm.trans hx.length
    cases ds with
    | nil =>
      cases its with
      | cons _ _ => simp at l1
      | nil => exact SeqAt.eq_listAt (e := fun _ => true) ⟨o, ho, hc, n, hd⟩ ⟨o2, ho2, hc2, n2, hd2⟩ rfl (by omega) (fun j _ h2 => absurd h2 (by simp)) ⟨_, H, I, rel_bl, k _ H B _ (Ex.refl B) w (.bl _) h⟩
    | cons d ds =>
      exact SeqAt.eq_list_lengthsAt ⟨o, ho, hc, n, hd⟩ ⟨o2, ho2, hc2, n2, hd2⟩ (by simp; intro q; subst q; simp at l1) (by omega) ⟨_, H, I, rel_bl, k _ H B _ (Ex.refl B) w (.bl _) h⟩
  · obtain ⟨fx, fy, h⟩ := h
    obtain ⟨as, r1⟩ := L2.Dp.reads I _ x v (dp2_mono w.ex (hx.py (fit_pure fx))) rx
    obtain ⟨bs, r2⟩ := L2.Dp.reads I _ y u (dp2_mono w.ex (hy.py (fit_pure fy))) ry
    refine SeqAt.compareEq_shaped r1 r2 (fit_shaped fx) (fit_shaped fy) hu ⟨.bl _, H, I, rel_bl, k _ H B _ (Ex.refl B) w (.bl _) ?_⟩
    rw [Bool.bne_false] at h
    exact h
theorem opNe (hu : X.A.units + 64 < cLine) : OpR X (compareOp .NotEq) (rOf X.md (fEqB true)) := by
  intro pins s σ H x y v u Q I rx ry ⟨R, Fz, B, dx, dy, Qd, w, hx, hy, h, k⟩
  unfold fEqB at h
  split at h
  · rename_i ds
    cases hx with
    | @tup a xs _ sx hx =>
    cases hy with
    | @tup b ys _ sy hy =>
    cases hy
    cases rx
    cases ry
    obtain ⟨its, rv, ⟨o, ho, hc, n, hd⟩, _⟩ := I.tuple (w.ex.st sx.st)
    obtain ⟨its2, rv2, ⟨o2, ho2, hc2, n2, hd2⟩, _⟩ := I.tuple (w.ex.st sy.st)
    cases rv2
    refine SeqAt.RcNeAt.tuples (e := fun _ => true) ⟨o, ho, hc, n, hd⟩ ⟨o2, ho2, hc2, n2, hd2⟩ (by omega) (fun j _ h2 => absurd h2 (by simp)) _ _ _ _ ⟨_, H, I, rel_bl, k _ H B _ (Ex.refl B) w (.bl _) ?_⟩
    have l1 : its.length = ds.length := rv.length.symm.trans hx.length
    have e : (!(((List.range (min its.toArray.size ([] : List Value).toArray.size)).all fun _ => true) && its.toArray.size == ([] : List Value).toArray.size)) = (ds.isEmpty != true) := by
      cases ds with
      | nil => cases its with
        | nil => rfl
        | cons _ _ => simp at l1
      | cons _ _ => cases its with
        | nil => simp at l1
        | cons _ _ => simp
    rw [e]; exact h
  · rename_i ds
    cases hx with
    | @lst a xs _ sx hx =>
    cases hy with
    | @lst b ys _ sy hy =>
    cases hy
    cases rx
    cases ry
    obtain ⟨its, rv, ⟨o, n, ho, hc, _, hd⟩, _⟩ := I.list (SqL.of (w.ex _ _ sx))
    obtain ⟨its2, rv2, ⟨o2, n2, ho2, hc2, _, hd2⟩, _⟩ := I.list (SqL.of (w.ex _ _ sy))
    cases rv2
    have l1 : its.length = ds.length := rv.length.symm.trans hx.length
    cases ds with
    | nil =>
      cases its with
      | cons _ _ => simp at l1
      | nil => exact SeqAt.RcNeAt.lists (e := fun _ => true) ⟨o, ho, hc, n, hd⟩ ⟨o2, ho2, hc2, n2, hd2⟩ rfl (by omega) (fun j _ h2 => absurd h2 (by simp)) _ _ _ _ ⟨_, H, I, rel_bl, k _ H B _ (Ex.refl B) w (.bl _) h⟩
    | cons d ds =>
      exact SeqAt.RcNeAt.lists_lengths ⟨o, ho, hc, n, hd⟩ ⟨o2, ho2, hc2, n2, hd2⟩ (by simp; intro q; subst q; simp at l1) (by omega) _ _ _ _ ⟨_, H, I, rel_bl, k _ H B _ (Ex.refl B) w (.bl _) h⟩
  · obtain ⟨fx, fy, h⟩ := h
    obtain ⟨as, r1⟩ := L2.Dp.reads I _ x v (dp2_mono w.ex (hx.py (fit_pure fx))) rx
    obtain ⟨bs, r2⟩ := L2.Dp.reads I _ y u (dp2_mono w.ex (hy.py (fit_pure fy))) ry
    refine SeqAt.compareNe_shaped r1 r2 (fit_shaped fx) (fit_shaped fy) hu ⟨.bl _, H, I, rel_bl, k _ H B _ (Ex.refl B) w (.bl _) ?_⟩
    rw [Bool.bne_true] at h
    exact h
abbrev fEq : F2 := fEqB false
abbrev fNe : F2 := fEqB true

/-! ### in, not in -/
def fInB (neg : Bool) : F2
  | .str x, .str z, Q => ∃ c, x = ⟨#[c]⟩ ∧ Q (.bl (decide (c ∈ z.cps.toList) != neg))
  | x, .tup ys, Q => (∀ y ∈ ys, eqOk y x = true) ∧ Q (.bl ((ys.any fun y => y.eqv x) != neg))
  | x, .lst ys, Q => (∀ y ∈ ys, eqOk y x = true) ∧ Q (.bl ((ys.any fun y => y.eqv x) != neg))
  | _, _, _ => False
abbrev fIn : F2 := fInB false
abbrev fNin : F2 := fInB true
theorem any_vals {M : Md} {B : Hp} {g : D → Bool} {e : Value → Bool} : ∀ {vs : List V} {ds : List D} {us : List Value}, Dps M B vs ds → Vals vs us → (∀ v d u, Dp M B v d → RelV v u → d ∈ ds → u ∈ us → e u = g d) → us.any e = ds.any g
  | _, _, _, .nil, .nil, _ => rfl
  | _, _, _, .cons h t, .cons r rs, f => by
    rw [List.any_cons, List.any_cons, f _ _ _ h r (List.mem_cons_self ..) (List.mem_cons_self ..), any_vals t rs fun v d u h r md mu => f v d u h r (List.mem_cons_of_mem _ md) (List.mem_cons_of_mem _ mu)]
end
end DL

set_option Elab.async false
set_option linter.all false
set_option maxRecDepth 100000
set_option maxHeartbeats 400000
namespace DL
open PySem L2

theorem eqOk_pure {y x : D} (h : eqOk y x = true) : y.pure = true := by
  unfold eqOk at h
  rcases Bool.or_eq_true_iff.mp h with h | h
  · exact fit_pure (Bool.and_eq_true_iff.mp h).1
  · split at h <;> first | rfl | cases h
/-- what a value reads as -/
noncomputable def rdOf (h : Heap) (u : Value) : PyData := open Classical in if q : ∃ d as, Reads h u d as then q.choose else .none
theorem rdOf_eq {h : Heap} {u : Value} {d : PyData} {as : List Addr} (r : Reads h u d as) : rdOf h u = d := by
  have q : ∃ d as, Reads h u d as := ⟨d, as, r⟩
  unfold rdOf
  rw [dif_pos q]
  obtain ⟨as', r'⟩ := q.choose_spec
  exact (Reads.unique r' d as r).1
section
variable {X : Cx} {pins : List (Addr × Obj)} {σ : L2.St} {H B : Hp} {s : Shared}
theorem rdOf_d (I : Inv X pins σ H s) (ex : Ex B H) {v : V} {u : Value} {d : D} (h : Dp X.md B v d) (r : RelV v u) (p : d.pure = true) : rdOf s.heap u = d.py := by
  obtain ⟨as, q⟩ := L2.Dp.reads I d.py v u (dp2_mono ex (h.py p)) r
  exact rdOf_eq q
theorem vals_mem {M : Md} {B : Hp} : ∀ {vs : List V} {ds : List D} {us : List Value}, Dps M B vs ds → Vals vs us → ∀ u ∈ us, ∃ v d, Dp M B v d ∧ RelV v u ∧ d ∈ ds
  | _, _, _, .nil, .nil, _, m => nomatch m
  | _, _, _, .cons h t, .cons r rs, u, m => by
    rcases List.mem_cons.mp m with e | m
    · subst e; exact ⟨_, _, h, r, List.mem_cons_self ..⟩
    · obtain ⟨v, d, h1, h2, h3⟩ := vals_mem t rs u m
      exact ⟨v, d, h1, h2, List.mem_cons_of_mem _ h3⟩
end
section
variable {X : Cx} {W : WX} {a b c e : Expr} {es : List Expr} {ta tb tc t : DT} {pos : Pos}
theorem opInB (neg : Bool) (hu : X.A.units + 100 < cLine) : OpR X (compareOp (if neg then .NotIn else .In)) (rOf X.md (fInB neg)) := by
  intro pins s σ H x y v u Q I rx ry ⟨R, Fz, B, dx, dy, Qd, w, hx, hy, h, k⟩
  have hu1 : (X.A.in1).units + 64 < cLine := by show X.A.units + 1 + 64 < cLine; omega
  unfold fInB at h
  split at h
  · obtain ⟨c, rfl, h⟩ := h
    cases hx; cases hy
    cases neg with
    | false => exact op_in_sign pins s σ H _ _ v u Q I rx ry ⟨c, _, rfl, rfl, k _ H B _ (Ex.refl B) w (.bl _) (by rw [Bool.bne_false] at h; exact h)⟩
    | true => exact op_notIn_sign pins s σ H _ _ v u Q I rx ry ⟨c, _, rfl, rfl, k _ H B _ (Ex.refl B) w (.bl _) (by rw [Bool.bne_true] at h; exact h)⟩
  · rename_i ds
    obtain ⟨ok, h⟩ := h
    cases hy with
    | @tup a xs _ sy hy =>
    cases ry
    obtain ⟨its, rv, ⟨o, ho, hc, n, hd⟩, _⟩ := I.tuple (w.ex.st sy.st)
    have he : ∀ z, z ∈ its.toArray → SeqAt.EqAt X.A.in1 s z v (PyData.eqv (rdOf s.heap z) dx.py) := fun z hz => by
      obtain ⟨v', d', h1, h2, h3⟩ := vals_mem hy rv z (by simpa using hz)
      rw [rdOf_d I w.ex h1 h2 (eqOk_pure (ok d' h3))]
      exact eqAt_d I w.ex h1 hx h2 rx (ok d' h3) hu1
    have e : (its.toArray.any fun z => PyData.eqv (rdOf s.heap z) dx.py) = ds.any fun y => y.eqv dx := by
      rw [List.any_toArray]
      exact any_vals hy rv fun v' d' u' h1 h2 h3 _ => by rw [rdOf_d I w.ex h1 h2 (eqOk_pure (ok d' h3))]; rfl
    cases neg with
    | false => exact SeqAt.in_tupleAt _ ⟨o, ho, hc, n, hd⟩ he ⟨_, H, I, rel_bl, k _ H B _ (Ex.refl B) w (.bl _) (by rw [e]; rw [Bool.bne_false] at h; exact h)⟩
    | true => exact SeqAt.notIn_tupleAt _ ⟨o, ho, hc, n, hd⟩ he ⟨_, H, I, rel_bl, k _ H B _ (Ex.refl B) w (.bl _) (by rw [e]; rw [Bool.bne_true] at h; exact h)⟩
  · rename_i ds
    obtain ⟨ok, h⟩ := h
    cases hy with
    | @lst a xs _ sy hy =>
    cases ry
    obtain ⟨its, rv, ⟨o, n, ho, hc, _, hd⟩, _⟩ := I.list (SqL.of (w.ex _ _ sy))
    have he : ∀ z, z ∈ its.toArray → SeqAt.EqAt X.A.in1 s z v (PyData.eqv (rdOf s.heap z) dx.py) := fun z hz => by
      obtain ⟨v', d', h1, h2, h3⟩ := vals_mem hy rv z (by simpa using hz)
      rw [rdOf_d I w.ex h1 h2 (eqOk_pure (ok d' h3))]
      exact eqAt_d I w.ex h1 hx h2 rx (ok d' h3) hu1
    have e : (its.toArray.any fun z => PyData.eqv (rdOf s.heap z) dx.py) = ds.any fun y => y.eqv dx := by
      rw [List.any_toArray]
      exact any_vals hy rv fun v' d' u' h1 h2 h3 _ => by rw [rdOf_d I w.ex h1 h2 (eqOk_pure (ok d' h3))]; rfl
    cases neg with
    | false => exact SeqAt.in_listAt _ ⟨o, ho, hc, n, hd⟩ he ⟨_, H, I, rel_bl, k _ H B _ (Ex.refl B) w (.bl _) (by rw [e]; rw [Bool.bne_false] at h; exact h)⟩
    | true => exact SeqAt.notIn_listAt _ ⟨o, ho, hc, n, hd⟩ he ⟨_, H, I, rel_bl, k _ H B _ (Ex.refl B) w (.bl _) (by rw [e]; rw [Bool.bne_true] at h; exact h)⟩
  · exact h.elim
theorem de_eq (hu : X.A.units + 100 < cLine) (ha : DE X W a ta) (hb : DE X W b tb) : DE X W (.Compare a [.Eq] [b] pos) (dBin fEq ta tb) := de_cmp (opEq (by omega)) rOf_ok ha hb (nomark _)
theorem de_ne (hu : X.A.units + 100 < cLine) (ha : DE X W a ta) (hb : DE X W b tb) : DE X W (.Compare a [.NotEq] [b] pos) (dBin fNe ta tb) := de_cmp (opNe (by omega)) rOf_ok ha hb (nomark _)
theorem de_in (hu : X.A.units + 100 < cLine) (ha : DE X W a ta) (hb : DE X W b tb) (hm : behindInMarks .In b = false := by rfl) : DE X W (.Compare a [.In] [b] pos) (dBin fIn ta tb) := de_cmp (opInB false hu) rOf_ok ha hb hm
theorem de_nin (hu : X.A.units + 100 < cLine) (ha : DE X W a ta) (hb : DE X W b tb) (hm : behindInMarks .NotIn b = false := by rfl) : DE X W (.Compare a [.NotIn] [b] pos) (dBin fNin ta tb) := de_cmp (opInB true hu) rOf_ok ha hb hm
theorem dt_eq (hu : X.A.units + 100 < cLine) (ha : DE X W a ta) (hb : DE X W b tb) : DTt X W (.Compare a [.Eq] [b] pos) (dTest (dBin fEq ta tb)) := dt_cmp (opEq (by omega)) rOf_ok ha hb (nomark _)
theorem dt_ne (hu : X.A.units + 100 < cLine) (ha : DE X W a ta) (hb : DE X W b tb) : DTt X W (.Compare a [.NotEq] [b] pos) (dTest (dBin fNe ta tb)) := dt_cmp (opNe (by omega)) rOf_ok ha hb (nomark _)
theorem dt_in (hu : X.A.units + 100 < cLine) (ha : DE X W a ta) (hb : DE X W b tb) (hm : behindInMarks .In b = false := by rfl) : DTt X W (.Compare a [.In] [b] pos) (dTest (dBin fIn ta tb)) := dt_cmp (opInB false hu) rOf_ok ha hb hm
theorem dt_nin (hu : X.A.units + 100 < cLine) (ha : DE X W a ta) (hb : DE X W b tb) (hm : behindInMarks .NotIn b = false := by rfl) : DTt X W (.Compare a [.NotIn] [b] pos) (dTest (dBin fNin ta tb)) := dt_cmp (opInB true hu) rOf_ok ha hb hm
end
end DL

set_option Elab.async false
set_option linter.all false
set_option maxRecDepth 100000
set_option maxHeartbeats 400000
namespace DL
open PySem L2
section
variable {X : Cx} {W : WX} {a b c e : Expr} {es rest : List Expr} {ta tb tc t : DT} {tA tB' : DB} {tr : DA} {pos : Pos}

/-! ### tests -/
theorem dt_val (h : DE X W e t) (he : ∀ whole, isTrue e X.env whole = (do let v ← whole; standAt e.pos; holding [v] (truthy v)) := by intro _; rfl) : DTt X W e (dTest t) :=
  (pt_val h he).imp fun σ H Q ⟨R, Fz, B, ρ, Qd, E, w, sl, q, k, x⟩ =>
    ⟨R, Fz, B, ρ, _, E, w, sl, q, fun R v H1 B1 d e1 w1 h1 ⟨b, hb, q1⟩ => by subst hb; exact ⟨b, h1.ofBl, k R b H1 B1 e1 w1 q1⟩, x⟩
def dNot (t : DB) : DB := fun R ρ Q E => t R ρ (fun R b => Q R (!b)) E
def dAnd (t u : DB) : DB := fun R ρ Q E => t R ρ (fun R b => if b = true then u R ρ Q E else Q R false) E
def dOr (t u : DB) : DB := fun R ρ Q E => t R ρ (fun R b => if b = true then Q R true else u R ρ Q E) E
theorem dt_not (ha : DTt X W a tA) : DTt X W (.UnaryOp .Not a pos) (dNot tA) :=
  (pt_not ha).imp fun σ H Q ⟨R, Fz, B, ρ, Qd, E, w, sl, q, k, x⟩ => ⟨R, Fz, B, ρ, _, E, w, sl, q, fun R b H1 B1 e1 w1 q1 => k R (!b) H1 B1 e1 w1 q1, x⟩
abbrev DW (X : Cx) (W : WX) (e : Expr) (t : DB) : Prop := PW X e (liftB X.md W t)
theorem _root_.L2.PW.imp {X : Cx} {e : Expr} {t t' : TT} (h : PW X e t) (f : ∀ σ H Q, t' σ H Q → t σ H Q) : PW X e t' := ⟨fun wh pins s σ H Q I q => h.run wh pins s σ H Q I (f σ H Q q)⟩
theorem dw_and1 (ha : DTt X W a tA) : DW X W (.BoolOp .And [a] pos) tA := pw_and1 ha
theorem dw_or1 (ha : DTt X W a tA) : DW X W (.BoolOp .Or [a] pos) tA := pw_or1 ha
theorem dw_and (ha : DTt X W a tA) (hb : DW X W (.BoolOp .And (b :: rest) pos) tB') : DW X W (.BoolOp .And (a :: b :: rest) pos) (dAnd tA tB') :=
  (pw_and ha hb).imp fun σ H Q ⟨R, Fz, B, ρ, Qd, E, w, sl, q, k, x⟩ => ⟨R, Fz, B, ρ, _, E, w, sl, q, fun R b H1 B1 e1 w1 q1 => by
    cases b with
    | true => exact ⟨R, Fz, B1, ρ, _, E, w1, sl.mono e1, q1, fun R b H2 B2 e2 w2 q2 => k R b H2 B2 (e1.trans e2) w2 q2, x.mono e1⟩
    | false => exact k R false H1 B1 e1 w1 q1, x⟩
theorem dw_or (ha : DTt X W a tA) (hb : DW X W (.BoolOp .Or (b :: rest) pos) tB') : DW X W (.BoolOp .Or (a :: b :: rest) pos) (dOr tA tB') :=
  (pw_or ha hb).imp fun σ H Q ⟨R, Fz, B, ρ, Qd, E, w, sl, q, k, x⟩ => ⟨R, Fz, B, ρ, _, E, w, sl, q, fun R b H1 B1 e1 w1 q1 => by
    cases b with
    | false => exact ⟨R, Fz, B1, ρ, _, E, w1, sl.mono e1, q1, fun R b H2 B2 e2 w2 q2 => k R b H2 B2 (e1.trans e2) w2 q2, x.mono e1⟩
    | true => exact k R true H1 B1 e1 w1 q1, x⟩
theorem dt_w (h : DW X W e tA) : DTt X W e tA := h.pt

/-! ### and, or, not as values of truth values -/
def dAndV (ta tb : DT) : DT := fun R ρ Q E => ta R ρ (fun R d => ∃ b, d = .bl b ∧ if b = true then tb R ρ Q E else Q R (.bl false)) E
def dOrV (ta tb : DT) : DT := fun R ρ Q E => ta R ρ (fun R d => ∃ b, d = .bl b ∧ if b = true then Q R (.bl true) else tb R ρ Q E) E
def dNotV (ta : DT) : DT := fun R ρ Q E => ta R ρ (fun R d => ∃ b, d = .bl b ∧ Q R (.bl (!b))) E
theorem de_one {op} (h : DE X W a t) : DE X W (.BoolOp op [a] pos) t := pe_one h
theorem de_and (ha : DE X W a ta) (hb : DE X W (.BoolOp .And (b :: rest) pos) tb) : DE X W (.BoolOp .And (a :: b :: rest) pos) (dAndV ta tb) :=
  (pe_and ha hb).imp fun σ H Q ⟨R, Fz, B, ρ, Qd, E, w, sl, q, k, x⟩ => ⟨R, Fz, B, ρ, _, E, w, sl, q, fun R v H1 B1 d e1 w1 h1 ⟨b, hb, q1⟩ => by
    subst hb
    refine ⟨b, h1.ofBl, ?_⟩
    cases b with
    | true => exact ⟨R, Fz, B1, ρ, _, E, w1, sl.mono e1, q1, k.mono e1, x.mono e1⟩
    | false => exact k R _ H1 B1 _ e1 w1 (.bl _) q1, x⟩
theorem de_or (ha : DE X W a ta) (hb : DE X W (.BoolOp .Or (b :: rest) pos) tb) : DE X W (.BoolOp .Or (a :: b :: rest) pos) (dOrV ta tb) :=
  (pe_or ha hb).imp fun σ H Q ⟨R, Fz, B, ρ, Qd, E, w, sl, q, k, x⟩ => ⟨R, Fz, B, ρ, _, E, w, sl, q, fun R v H1 B1 d e1 w1 h1 ⟨b, hb, q1⟩ => by
    subst hb
    refine ⟨b, h1.ofBl, ?_⟩
    cases b with
    | false => exact ⟨R, Fz, B1, ρ, _, E, w1, sl.mono e1, q1, k.mono e1, x.mono e1⟩
    | true => exact k R _ H1 B1 _ e1 w1 (.bl _) q1, x⟩
theorem de_not (ha : DE X W a ta) : DE X W (.UnaryOp .Not a pos) (dNotV ta) :=
  (pe_not ha).imp fun σ H Q ⟨R, Fz, B, ρ, Qd, E, w, sl, q, k, x⟩ => ⟨R, Fz, B, ρ, _, E, w, sl, q, fun R v H1 B1 d e1 w1 h1 ⟨b, hb, q1⟩ => by
    subst hb
    exact ⟨b, h1.ofBl, k R _ H1 B1 _ e1 w1 (.bl _) q1⟩, x⟩
def dIf (t : DB) (ta tb : DT) : DT := fun R ρ Q E => t R ρ (fun R b => if b = true then ta R ρ Q E else tb R ρ Q E) E
theorem de_if (hc : DTt X W c tA) (ha : DE X W a ta) (hb : DE X W b tb) : DE X W (.IfExp c a b pos) (dIf tA ta tb) :=
  (pe_ifExp hc ha hb).imp fun σ H Q ⟨R, Fz, B, ρ, Qd, E, w, sl, q, k, x⟩ => ⟨R, Fz, B, ρ, _, E, w, sl, q, fun R b H1 B1 e1 w1 q1 => by
    cases b with
    | true => exact ⟨R, Fz, B1, ρ, _, E, w1, sl.mono e1, q1, k.mono e1, x.mono e1⟩
    | false => exact ⟨R, Fz, B1, ρ, _, E, w1, sl.mono e1, q1, k.mono e1, x.mono e1⟩, x⟩

/-! ### order, chains -/
theorem opLt : OpR X (compareOp .Lt) (rOrd (fun i j => decide (i < j)) fun x y => decide (x < y)) := op_lt.or op_lt_str
theorem opLe : OpR X (compareOp .LtE) (rOrd (fun i j => decide (i ≤ j)) fun x y => !decide (y < x)) := op_le.or op_le_str
theorem opGt : OpR X (compareOp .Gt) (rOrd (fun i j => decide (j < i)) fun x y => decide (y < x)) := op_gt.or op_gt_str
theorem opGe : OpR X (compareOp .GtE) (rOrd (fun i j => decide (j ≤ i)) fun x y => !decide (x < y)) := op_ge.or op_ge_str
theorem de_lt (ha : DE X W a ta) (hb : DE X W b tb) : DE X W (.Compare a [.Lt] [b] pos) (dBin fLt ta tb) := de_cmp opLt fOrd_ok ha hb (nomark _)
theorem de_le (ha : DE X W a ta) (hb : DE X W b tb) : DE X W (.Compare a [.LtE] [b] pos) (dBin fLe ta tb) := de_cmp opLe fOrd_ok ha hb (nomark _)
theorem de_gt (ha : DE X W a ta) (hb : DE X W b tb) : DE X W (.Compare a [.Gt] [b] pos) (dBin fGt ta tb) := de_cmp opGt fOrd_ok ha hb (nomark _)
theorem de_ge (ha : DE X W a ta) (hb : DE X W b tb) : DE X W (.Compare a [.GtE] [b] pos) (dBin fGe ta tb) := de_cmp opGe fOrd_ok ha hb (nomark _)
theorem dt_lt (ha : DE X W a ta) (hb : DE X W b tb) : DTt X W (.Compare a [.Lt] [b] pos) (dTest (dBin fLt ta tb)) := dt_cmp opLt fOrd_ok ha hb (nomark _)
theorem dt_le (ha : DE X W a ta) (hb : DE X W b tb) : DTt X W (.Compare a [.LtE] [b] pos) (dTest (dBin fLe ta tb)) := dt_cmp opLe fOrd_ok ha hb (nomark _)
theorem dt_gt (ha : DE X W a ta) (hb : DE X W b tb) : DTt X W (.Compare a [.Gt] [b] pos) (dTest (dBin fGt ta tb)) := dt_cmp opGt fOrd_ok ha hb (nomark _)
theorem dt_ge (ha : DE X W a ta) (hb : DE X W b tb) : DTt X W (.Compare a [.GtE] [b] pos) (dTest (dBin fGe ta tb)) := dt_cmp opGe fOrd_ok ha hb (nomark _)
def dChain (f g : F2) (ta tb tc : DT) : DT := fun R ρ Q E => ta R ρ (fun R x => tb R ρ (fun R y => f x y fun z => ∃ k, z = .bl k ∧ if k = true then tc R ρ (fun R u => g y u (Q R)) E else Q R (.bl false)) E) E
theorem lift3 {M : Md} {r r' : R2} {f g : F2} (hf : OpD M r f) (hg : OpD M r' g) {σ : L2.St} {H : Hp} {Q : VK} (h : lift M W (dChain f g ta tb tc) σ H Q) : tChain r r' (lift M W ta) (lift M W tb) (lift M W tc) σ H Q := by
  obtain ⟨R, Fz, B, ρ, Qd, E, w, sl, q, k, x⟩ := h
  refine ⟨R, Fz, B, ρ, _, E, w, sl, q, fun R v H1 B1 d e1 w1 h1 q1 => ?_, x⟩
  refine ⟨R, Fz, B1, ρ, _, E, w1, sl.mono e1, q1, fun R u H2 B2 d2 e2 w2 h2 q2 => ?_, x.mono e1⟩
  refine hf R Fz B2 H2 v u d d2 _ _ w2 (h1.mono e2) h2 q2 fun z H3 B3 d3 e3 w3 h3 ⟨b, hb, q3⟩ => ?_
  subst hb
  refine ⟨b, h3.ofBl, ?_⟩
  cases b with
  | true =>
    refine ⟨R, Fz, B3, ρ, _, E, w3, (sl.mono e1).mono (e2.trans e3), q3, fun R y H4 B4 d4 e4 w4 h4 q4 => ?_, x.mono ((e1.trans e2).trans e3)⟩
    exact hg R Fz B4 H4 u y d2 d4 _ Q w4 (h2.mono (e3.trans e4)) h4 q4 ((k.mono (((e1.trans e2).trans e3).trans e4)).at R)
  | false => exact k R _ H3 B3 _ ((e1.trans e2).trans e3) w3 (.bl _) q3
theorem de_leLe (ha : DE X W a ta) (hb : DE X W b tb) (hc : DE X W c tc) (hm : lastMarks [.LtE, .LtE] [b, c] = false := by with_unfolding_all rfl) : DE X W (.Compare a [.LtE, .LtE] [b, c] pos) (dChain fLe fLe ta tb tc) := (pe_chain opLe opLe ha hb hc hm).imp fun _ _ _ h => lift3 fOrd_ok fOrd_ok h
theorem de_leLt (ha : DE X W a ta) (hb : DE X W b tb) (hc : DE X W c tc) (hm : lastMarks [.LtE, .Lt] [b, c] = false := by with_unfolding_all rfl) : DE X W (.Compare a [.LtE, .Lt] [b, c] pos) (dChain fLe fLt ta tb tc) := (pe_chain opLe opLt ha hb hc hm).imp fun _ _ _ h => lift3 fOrd_ok fOrd_ok h
theorem tchain {r r' : R2} {f g : F2} (hf : OpD X.md r f) (hg : OpD X.md r' g) (h : PT X e (tTest (tChain r r' (lift X.md W ta) (lift X.md W tb) (lift X.md W tc)))) : DTt X W e (dTest (dChain f g ta tb tc)) :=
  h.imp fun σ H Q ⟨R, Fz, B, ρ, Qd, E, w, sl, q, k, x⟩ => lift3 hf hg ⟨R, Fz, B, ρ, _, E, w, sl, q, fun R v H1 B1 d e1 w1 h1 ⟨b, hb, q1⟩ => by subst hb; exact ⟨b, h1.ofBl, k R b H1 B1 e1 w1 q1⟩, x⟩
theorem dt_leLe (ha : DE X W a ta) (hb : DE X W b tb) (hc : DE X W c tc) (hm : lastMarks [.LtE, .LtE] [b, c] = false := by with_unfolding_all rfl) : DTt X W (.Compare a [.LtE, .LtE] [b, c] pos) (dTest (dChain fLe fLe ta tb tc)) := tchain fOrd_ok fOrd_ok (pt_chain opLe opLe ha hb hc hm)
theorem dt_leLt (ha : DE X W a ta) (hb : DE X W b tb) (hc : DE X W c tc) (hm : lastMarks [.LtE, .Lt] [b, c] = false := by with_unfolding_all rfl) : DTt X W (.Compare a [.LtE, .Lt] [b, c] pos) (dTest (dChain fLe fLt ta tb tc)) := tchain fOrd_ok fOrd_ok (pt_chain opLe opLt ha hb hc hm)

/-! ### arguments, displays -/
def dNil : DA := fun R _ Q _ => Q R []
def dCons (ta : DT) (tr : DA) : DA := fun R ρ Q E => ta R ρ (fun R x => tr R ρ (fun R xs => Q R (x :: xs)) E) E
theorem da_nil : DAs X W [] dNil := pa_nil.imp fun σ H Q ⟨R, Fz, B, ρ, Qd, E, w, sl, q, k, x⟩ => k R [] H B [] (Ex.refl B) w .nil q
theorem da_cons (ha : DE X W e t) (hr : DAs X W es tr) (hs : starEach (e :: es) X.env = (false, eval e X.env) :: starEach es X.env := by rfl) : DAs X W (e :: es) (dCons t tr) :=
  (pa_cons ha hr hs).imp fun σ H Q ⟨R, Fz, B, ρ, Qd, E, w, sl, q, k, x⟩ => ⟨R, Fz, B, ρ, _, E, w, sl, q, fun R v H1 B1 d e1 w1 h1 q1 =>
    ⟨R, Fz, B1, ρ, _, E, w1, sl.mono e1, q1, fun R vs H2 B2 ds e2 w2 h2 q2 => k R _ H2 B2 _ (e1.trans e2) w2 (.cons (h1.mono e2) h2) q2, x.mono e1⟩, x⟩
def dTup (ta : DA) : DT := fun R ρ Q E => ta R ρ (fun R xs => xs.length ≤ sizeLine ∧ Q R (.tup xs)) E
def dLst (ta : DA) : DT := fun R ρ Q E => ta R ρ (fun R xs => xs.length ≤ sizeLine ∧ Q R (.lst xs)) E
theorem de_tup {k} (h : DAs X W es tr) : DE X W (.Tuple es k pos) (dTup tr) :=
  (pe_tupF h).imp fun σ H Q ⟨R, Fz, B, ρ, Qd, E, w, sl, q, k, x⟩ => ⟨R, Fz, B, ρ, _, E, w, sl, q, fun R vs H1 B1 ds e1 w1 h1 ⟨hz, q1⟩ =>
    ⟨by rw [h1.length]; exact hz, fun p o hp ho => k R _ _ _ _ (e1.trans (Ex.new (w1.free hp))) (w1.new hp) (.tup (.new ho) (h1.mono (Ex.new (w1.free hp)))) q1⟩, x⟩
theorem de_lst (h : DAs X W es tr) : DE X W (.List es pos) (dLst tr) :=
  (pe_lst h).imp fun σ H Q ⟨R, Fz, B, ρ, Qd, E, w, sl, q, k, x⟩ => ⟨R, Fz, B, ρ, _, E, w, sl, q, fun R vs H1 B1 ds e1 w1 h1 ⟨hz, q1⟩ =>
    ⟨by rw [h1.length]; exact hz, fun p hp => k R _ _ _ _ (e1.trans (Ex.new (w1.free hp))) (w1.new hp) (.lst upd_same (h1.mono (Ex.new (w1.free hp)))) q1⟩, x⟩

/-! ### calls of built-ins by values -/
abbrev FC := List D → (D → Prop) → Prop
def rcOf (M : Md) (f : FC) : List V → Hp → VK → Prop := fun xs H Q => ∃ (R : Res) (Fz B : Hp) (ds : List D) (Qd : D → Prop), Wd R B Fz H ∧ Dps M B xs ds ∧ f ds Qd ∧ VP M R B Fz Qd Q
/-- r is kept by f over the data -/
def CallD (M : Md) (r : List V → Hp → VK → Prop) (f : FC) : Prop := ∀ (R : Res) (Fz B H : Hp) (xs : List V) (ds : List D) (Qd : D → Prop) (Q : VK), Wd R B Fz H → Dps M B xs ds → f ds Qd → VP M R B Fz Qd Q → r xs H Q
theorem rcOf_ok {M : Md} {f : FC} : CallD M (rcOf M f) f := fun R Fz B H xs ds Qd Q w h hf k => ⟨R, Fz, B, ds, Qd, w, h, hf, k⟩
def dCB (f : FC) (ta : DA) : DT := fun R ρ Q E => ta R ρ (fun R ds => f ds (Q R)) E
theorem liftCB {M : Md} {r : List V → Hp → VK → Prop} {f : FC} (hf : CallD M r f) {σ : L2.St} {H : Hp} {Q : VK} (h : lift M W (dCB f tr) σ H Q) : tCB r (liftA M W tr) σ H Q := by
  obtain ⟨R, Fz, B, ρ, Qd, E, w, sl, q, k, x⟩ := h
  exact ⟨R, Fz, B, ρ, _, E, w, sl, q, fun R vs H1 B1 ds e1 w1 h1 q1 => hf R Fz B1 H1 vs ds _ Q w1 h1 q1 ((k.mono e1).at R), x⟩
theorem de_callB {x : Str} {id : String} {p : Pos} {r : List V → Hp → VK → Prop} {f : FC} (hc : CallR X (.builtin id) r) (hf : CallD X.md r f) (hg : Gl X x) (hm : X.mg x = none) (hv : bootBuiltins x = some (.builtin id)) (ha : DAs X W (e :: es) tr)
    (hn : x ≠ "__name__" := by decide) (hdb : (x == ("__debug__" : Str)) = false := by decide) (he : starEach (e :: es) X.env = (false, eval e X.env) :: starEach es X.env := by rfl) (hpl : (backTo pos (starEach es X.env)).any (·.1) = false := by rfl) :
    DE X W (.Call (.Name x p) (e :: es) [] pos) (dCB f tr) := (pe_callB hc hg hm hv ha hn hdb he hpl).imp fun _ _ _ h => liftCB hf h
theorem de_callT {x : Str} {T : String} {p : Pos} {r : List V → Hp → VK → Prop} {f : FC} (hc : CallR X (.type T) r) (hf : CallD X.md r f) (hg : Gl X x) (hm : X.mg x = none) (hv : bootBuiltins x = some (.type T)) (ha : DAs X W (e :: es) tr)
    (hn : x ≠ "__name__" := by decide) (hdb : (x == ("__debug__" : Str)) = false := by decide) (he : starEach (e :: es) X.env = (false, eval e X.env) :: starEach es X.env := by rfl) (hpl : (backTo pos (starEach es X.env)).any (·.1) = false := by rfl) :
    DE X W (.Call (.Name x p) (e :: es) [] pos) (dCB f tr) := (pe_callTy hc hg hm hv ha hn hdb he hpl).imp fun _ _ _ h => liftCB hf h

/-- len(x) -/
def lenD : D → Option Nat
  | .str x => some x.length | .tup ds => some ds.length | .lst ds => some ds.length | .frl ds => some ds.length | _ => none
def fLen : FC
  | [.str x], Q => x.length ≤ sizeLine ∧ Q (.int x.length)
  | [.tup ds], Q => Q (.int ds.length)
  | [.lst ds], Q => Q (.int ds.length)
  | [.frl ds], Q => Q (.int ds.length)
  | _, _ => False
abbrev rLenA (K : PySem.W.Frag) : List V → Hp → VK → Prop := fun xs H Q => ∃ x n, xs = [x] ∧ LenV K x H n ∧ Q (.int n) H
theorem fLen_ok {M : Md} : CallD M (rLenA M.K) fLen := by
  intro R Fz B H xs ds Qd Q w h hf k
  unfold fLen at hf
  split at hf
  · cases h with | cons h t => cases t; cases h; exact ⟨_, _, rfl, ⟨hf.1, rfl⟩, k _ H B _ (Ex.refl B) w (.int _) hf.2⟩
  · cases h with
    | cons h t => cases t; cases h with
      | tup s h => exact ⟨_, _, rfl, .inr ⟨_, w.ex.st s.st, rfl⟩, k _ H B _ (Ex.refl B) w (.int _) (by rw [h.length]; exact hf)⟩
  · cases h with
    | cons h t => cases t; cases h with
      | lst s h => exact ⟨_, _, rfl, .inl ⟨_, SqL.of (w.ex _ _ s), rfl⟩, k _ H B _ (Ex.refl B) w (.int _) (by rw [h.length]; exact hf)⟩
  · cases h with
    | cons h t => cases t; cases h with
      | frl s h => exact ⟨_, _, rfl, .inl ⟨_, w.ex.sl s, rfl⟩, k _ H B _ (Ex.refl B) w (.int _) (by rw [h.length]; exact hf)⟩
  · exact hf.elim
theorem de_len {p : Pos} (hg : Gl X "len") (hm : X.mg "len" = none) (ha : DAs X W [e] tr) (he : starEach [e] X.env = (false, eval e X.env) :: starEach [] X.env := by rfl) : DE X W (.Call (.Name "len" p) [e] [] pos) (dCB fLen tr) :=
  de_callB call_len fLen_ok hg hm PySem.boot_len ha (he := he)

/-- isinstance(x, T), T a built-in class -/
def tyD : D → Option String
  | .non => some "NoneType" | .bl _ => some "bool" | .int _ => some "int" | .str _ => some "str" | .tup _ => some "tuple" | .lst _ => some "list" | .dct _ => some "dict" | _ => none
def isiB (t T : String) : Bool := t == T || (t == "bool" && T == "int")
def fIsi : FC
  | [d, .ty T], Q => ∃ t, tyD d = some t ∧ L2.kitB t T = some (isiB t T) ∧ Q (.bl (isiB t T))
  | _, _ => False
theorem Dp.tyx {M : Md} {B H : Hp} (ex : Ex B H) {v : V} {d : D} {t : String} (h : Dp M B v d) (e : tyD d = some t) : TyX M.K H v (.type t) := by
  cases h with
  | non => cases e; exact .base .non
  | bl b => cases e; exact .base (.bl b)
  | int b => cases e; exact .base (.int b)
  | str b => cases e; exact .base (.str b)
  | tup s _ =>
    cases e
    rcases ex.st s.st with (s | ⟨o, s⟩) | ⟨o, its, n, s, c, _⟩
    · exact .base (.tup s)
    · exact .fTuple s
    · exact .kTuple s c
  | lst s _ => cases e; exact .base (.lst (ex _ _ s))
  | dct s _ => cases e; exact .base (.dK (ex _ _ s))
  | ty | ref | frl | tpw | obj | exc | cls => cases e
theorem fIsi_ok {M : Md} : CallD M (rIsi M.K) fIsi := by
  intro R Fz B H xs ds Qd Q w h hf k
  unfold fIsi at hf
  split at hf
  · obtain ⟨t, e, kt, hf⟩ := hf
    cases h with
    | cons h t2 => cases t2 with
      | cons h2 t3 => cases t3; cases h2; exact ⟨_, _, _, _, _, rfl, .ty _, h.tyx w.ex e, kit_ty kt, k _ H B _ (Ex.refl B) w (.bl _) hf⟩
  · exact hf.elim
theorem de_isi {p : Pos} {e2 : Expr} (hg : Gl X "isinstance") (hm : X.mg "isinstance" = none) (ha : DAs X W [e, e2] tr) (he : starEach [e, e2] X.env = (false, eval e X.env) :: starEach [e2] X.env := by rfl) (hpl : (backTo pos (starEach [e2] X.env)).any (·.1) = false := by rfl) : DE X W (.Call (.Name "isinstance" p) [e, e2] [] pos) (dCB fIsi tr) :=
  de_callB call_isi fIsi_ok hg hm (by decide +kernel) ha (he := he) (hpl := hpl)
/-- a built-in class as a value -/
theorem de_ty {x : Str} {T : String} (hg : Gl X x) (hm : X.mg x = none) (hv : bootBuiltins x = some (.type T)) (hn : x ≠ "__name__" := by decide) (hd : (x == ("__debug__" : Str)) = false := by decide) : DE X W (.Name x pos) (dC (.ty T)) :=
  de_c (pe_bltn (v := .ty T) hg hm hv rfl hn hd) fun _ => .ty T

/-- all([..]) -/
def D.bls : List D → Option (List Bool)
  | [] => some []
  | .bl b :: r => (D.bls r).map (b :: ·)
  | _ :: _ => none
theorem bls_eq : ∀ {ds : List D} {bs : List Bool}, D.bls ds = some bs → ds = bs.map D.bl
  | [], bs, h => by cases h; rfl
  | d :: r, bs, h => by
    cases d with
    | bl b =>
      unfold D.bls at h
      cases q : D.bls r with
      | none => rw [q] at h; cases h
      | some cs => rw [q] at h; cases h; rw [bls_eq q]; rfl
    | _ => cases h
theorem bls_map (bs : List Bool) : D.bls (bs.map D.bl) = some bs := by
  induction bs with
  | nil => rfl
  | cons b r ih => show (D.bls (r.map D.bl)).map (b :: ·) = _; rw [ih]; rfl
def fAll : FC
  | [.lst ds], Q => ∃ bs, D.bls ds = some bs ∧ Q (.bl (bs.all id))
  | _, _ => False
theorem fAll_ok {M : Md} : CallD M (rAll M.K) fAll := by
  intro R Fz B H xs ds Qd Q w h hf k
  unfold fAll at hf
  split at hf
  · obtain ⟨bs, e, hf⟩ := hf
    cases h with
    | cons h t => cases t; cases h with
      | lst s h =>
        rw [bls_eq e] at h
        exact ⟨_, bs, rfl, by rw [h.ofBls] at s; exact SqL.of (w.ex _ _ s), k _ H B _ (Ex.refl B) w (.bl _) hf⟩
  · exact hf.elim
theorem de_all {p : Pos} (hc : X.calm = true) (hg : Gl X "all") (hm : X.mg "all" = none) (ha : DAs X W [e] tr) (he : starEach [e] X.env = (false, eval e X.env) :: starEach [] X.env := by rfl) : DE X W (.Call (.Name "all" p) [e] [] pos) (dCB fAll tr) :=
  de_callB (cr_all hc) fAll_ok hg hm (by decide +kernel) ha (he := he)
def fAny : FC
  | [.lst ds], Q => ∃ bs, D.bls ds = some bs ∧ Q (.bl (bs.any id))
  | _, _ => False
theorem fAny_ok {M : Md} : CallD M (rAny M.K) fAny := by
  intro R Fz B H xs ds Qd Q w h hf k
  unfold fAny at hf
  split at hf
  · obtain ⟨bs, e, hf⟩ := hf
    cases h with
    | cons h t => cases t; cases h with
      | lst s h =>
        rw [bls_eq e] at h
        exact ⟨_, bs, rfl, by rw [h.ofBls] at s; exact SqL.of (w.ex _ _ s), k _ H B _ (Ex.refl B) w (.bl _) hf⟩
  · exact hf.elim
theorem de_any {p : Pos} (hc : X.calm = true) (hg : Gl X "any") (hm : X.mg "any" = none) (ha : DAs X W [e] tr) (he : starEach [e] X.env = (false, eval e X.env) :: starEach [] X.env := by rfl) : DE X W (.Call (.Name "any" p) [e] [] pos) (dCB fAny tr) :=
  de_callB (cr_any hc) fAny_ok hg hm (by decide +kernel) ha (he := he)
/-- int(n), min(m, n) -/
def fInt : FC
  | [.int i], Q => Q (.int i)
  | [.bl b], Q => Q (.int (if b then 1 else 0))
  | _, _ => False
def fMin2 : FC
  | [.int i, .int j], Q => Q (.int (if j < i then j else i))
  | _, _ => False
/-- tuple(x), list(x) of a list or tuple -/
def fTuple : FC
  | [.lst ds], Q => Q (.tup ds)
  | [.tup ds], Q => Q (.tup ds)
  | _, _ => False
def fList : FC
  | [.lst ds], Q => Q (.lst ds)
  | [.tup ds], Q => Q (.lst ds)
  | [.frl ds], Q => Q (.lst ds)
  | _, _ => False
end
end DL

set_option Elab.async false
set_option linter.all false
set_option maxRecDepth 100000
set_option maxHeartbeats 400000
namespace DL
open PySem L2
section
variable {X : Cx} {W : WX} {a b c e : Expr} {es rest : List Expr} {ta tb tc t : DT} {tA tB' : DB} {tr : DA} {pos : Pos}
theorem de_int1 {p : Pos} (hg : Gl X "int") (hm : X.mg "int" = none) (ha : DAs X W [e] tr) (he : starEach [e] X.env = (false, eval e X.env) :: starEach [] X.env := by rfl) : DE X W (.Call (.Name "int" p) [e] [] pos) (dCB fInt tr) :=
  de_callT call_int1 (fun R Fz B H xs ds Qd Q w h hf k => by
    unfold fInt at hf
    split at hf
    · cases h with | cons h t => cases t; cases h; exact .inl ⟨_, rfl, k _ H B _ (Ex.refl B) w (.int _) hf⟩
    · cases h with | cons h t => cases t; cases h; exact .inr ⟨_, rfl, k _ H B _ (Ex.refl B) w (.int _) hf⟩
    · exact hf.elim) hg hm (by decide +kernel) ha (he := he)
theorem de_min2 {p : Pos} {e2 : Expr} (hc : X.calm = true) (hg : Gl X "min") (hm : X.mg "min" = none) (ha : DAs X W [e, e2] tr) (he : starEach [e, e2] X.env = (false, eval e X.env) :: starEach [e2] X.env := by rfl) (hpl : (backTo pos (starEach [e2] X.env)).any (·.1) = false := by rfl) : DE X W (.Call (.Name "min" p) [e, e2] [] pos) (dCB fMin2 tr) :=
  de_callB (call_min2 hc) (fun R Fz B H xs ds Qd Q w h hf k => by
    unfold fMin2 at hf
    split at hf
    · cases h with | cons h t => cases t with | cons h2 t => cases t; cases h; cases h2; exact ⟨_, _, rfl, k _ H B _ (Ex.refl B) w (.int _) hf⟩
    · exact hf.elim) hg hm (by decide +kernel) ha (he := he) (hpl := hpl)
theorem de_tuple {p : Pos} (hg : Gl X "tuple") (hm : X.mg "tuple" = none) (ha : DAs X W [e] tr) (he : starEach [e] X.env = (false, eval e X.env) :: starEach [] X.env := by rfl) : DE X W (.Call (.Name "tuple" p) [e] [] pos) (dCB fTuple tr) :=
  de_callT call_tupleF (fun R Fz B H xs ds Qd Q w h hf k => by
    unfold fTuple at hf
    split at hf
    · cases h with
      | cons h t => cases t; cases h with
        | lst s h => exact ⟨_, _, rfl, .inl ⟨SqL.of (w.ex _ _ s), fun p o hp ho => k _ _ _ _ (Ex.new (w.free hp)) (w.new hp) (.tup (.new ho) (h.mono (Ex.new (w.free hp)))) hf⟩⟩
    · cases h with
      | cons h t => cases t; cases h with
        | tup s h => exact ⟨_, _, rfl, .inr ⟨w.ex.st s.st, k _ H B _ (Ex.refl B) w (.tup s h) hf⟩⟩
    · exact hf.elim) hg hm (by decide +kernel) ha (he := he)
theorem de_list {p : Pos} (hg : Gl X "list") (hm : X.mg "list" = none) (ha : DAs X W [e] tr) (he : starEach [e] X.env = (false, eval e X.env) :: starEach [] X.env := by rfl) : DE X W (.Call (.Name "list" p) [e] [] pos) (dCB fList tr) :=
  de_callT call_list_of (fun R Fz B H xs ds Qd Q w h hf k => by
    unfold fList at hf
    split at hf
    · cases h with
      | cons h t => cases t; cases h with
        | lst s h => exact ⟨_, _, rfl, .inl (SqL.of (w.ex _ _ s)), fun p hp => k _ _ _ _ (Ex.new (w.free hp)) (w.new hp) (.lst upd_same (h.mono (Ex.new (w.free hp)))) hf⟩
    · cases h with
      | cons h t => cases t; cases h with
        | tup s h => exact ⟨_, _, rfl, .inr (w.ex.st s.st), fun p hp => k _ _ _ _ (Ex.new (w.free hp)) (w.new hp) (.lst upd_same (h.mono (Ex.new (w.free hp)))) hf⟩
    · cases h with
      | cons h t => cases t; cases h with
        | frl s h => exact ⟨_, _, rfl, .inl (w.ex.sl s), fun p hp => k _ _ _ _ (Ex.new (w.free hp)) (w.new hp) (.lst upd_same (h.mono (Ex.new (w.free hp)))) hf⟩
    · exact hf.elim) hg hm (by decide +kernel) ha (he := he)

/-! ### subscripts -/
theorem atI_len {α β : Type} {xs : List α} {ys : List β} {i : Int} {y : β} (h : xs.length = ys.length) (e : atI ys i = some y) : ∃ j : Nat, ys[j]? = some y ∧ ∀ x, xs[j]? = some x → atI xs i = some x := by
  unfold atI at e ⊢
  cases q : ixN ys.length i with
  | none => rw [q] at e; cases e
  | some j =>
    rw [q] at e
    refine ⟨j, e, fun x hx => ?_⟩
    rw [h, q]
    exact hx
def fIx : F2
  | .lst ds, .int i, Q => ∃ d, atI ds i = some d ∧ Q d
  | .tup ds, .int i, Q => ∃ d, atI ds i = some d ∧ Q d
  | .str x, .int i, Q => x.length ≤ sizeLine ∧ ∃ c, atI x.cps.toList i = some c ∧ Q (.str ⟨#[c]⟩)
  | _, _, _ => False
theorem fIx_ok {M : Md} : OpD M (rIx M.K) fIx := by
  intro R Fz B H x y dx dy Qd Q w hx hy h k
  unfold fIx at h
  split at h
  · obtain ⟨d, e, h⟩ := h
    cases hy
    cases hx with
    | lst s hx =>
      obtain ⟨j, e1, e2⟩ := atI_len hx.length e
      obtain ⟨v, hv, hd⟩ := hx.get e1
      exact .inl ⟨_, _, _, v, rfl, rfl, SqL.of (w.ex _ _ s), e2 v hv, k _ H B _ (Ex.refl B) w hd h⟩
  · obtain ⟨d, e, h⟩ := h
    cases hy
    cases hx with
    | tup s hx =>
      obtain ⟨j, e1, e2⟩ := atI_len hx.length e
      obtain ⟨v, hv, hd⟩ := hx.get e1
      exact .inr (.inl ⟨_, _, _, v, rfl, rfl, w.ex.st s.st, e2 v hv, k _ H B _ (Ex.refl B) w hd h⟩)
  · obtain ⟨hz, c, e, h⟩ := h
    cases hy
    cases hx
    exact .inr (.inr ⟨_, _, c, rfl, rfl, hz, e, k _ H B _ (Ex.refl B) w (.str _) h⟩)
  · exact h.elim
theorem de_ix (ha : DE X W a ta) (hb : DE X W b tb) (hs : PlainIx b := by exact fun _ _ => rfl) : DE X W (.Subscript a b pos) (dBin fIx ta tb) := (pe_ix ix_seq ha hb hs).imp fun _ _ _ h => lift2 fIx_ok h

/-! ### slices -/
abbrev DO := Res → Env → (Res → Option Int → Prop) → DX → Prop
def liftO (M : Md) (W : WX) (t : DO) : TO := fun σ H Q => ∃ (R : Res) (Fz B : Hp) (ρ : Env) (Qd : Res → Option Int → Prop) (E : DX), Wd R B Fz H ∧ Slots M B σ ρ ∧ t R ρ Qd E ∧
  (∀ (R : Res) (o : Option Int) (H' B' : Hp), Ex B B' → Wd R B' Fz H' → Qd R o → Q o H') ∧ XL M W B Fz σ E
theorem _root_.L2.PO.imp {X : Cx} {e : Option Expr} {t t' : TO} (h : PO X e t) (f : ∀ σ H Q, t' σ H Q → t σ H Q) : PO X e t' := ⟨fun pins s σ H Q I q => h.run pins s σ H Q I (f σ H Q q)⟩
abbrev DPo (X : Cx) (W : WX) (e : Option Expr) (t : DO) : Prop := PO X e (liftO X.md W t)
def dNoPart : DO := fun R _ Q _ => Q R none
def dPart (t : DT) : DO := fun R ρ Q E => t R ρ (fun R d => ∃ i, d = .int i ∧ Q R (some i)) E
theorem dpo_none : DPo X W none dNoPart := po_none.imp fun σ H Q ⟨R, Fz, B, ρ, Qd, E, w, sl, q, k, x⟩ => k R none H B (Ex.refl B) w q
theorem dpo_some (h : DE X W e t) : DPo X W (some e) (dPart t) := (po_some h).imp fun σ H Q ⟨R, Fz, B, ρ, Qd, E, w, sl, q, k, x⟩ =>
  ⟨R, Fz, B, ρ, _, E, w, sl, q, fun R v H1 B1 d e1 w1 h1 ⟨i, hi, q1⟩ => by subst hi; exact ⟨i, h1.ofInt, k R _ H1 B1 e1 w1 q1⟩, x⟩
def cutD (xs : List D) (lo hi : Option Int) : List D := (xs.drop (HT.sIx xs.length 0 lo)).take (HT.sIx xs.length xs.length hi - HT.sIx xs.length 0 lo)
abbrev FS := D → Option Int → Option Int → (D → Prop) → Prop
def fCut : FS
  | .lst ds, lo, hi, Q => Q (.lst (cutD ds lo hi))
  | .tup ds, lo, hi, Q => Q (.tup (cutD ds lo hi))
  | .str x, lo, hi, Q => x.length ≤ sizeLine ∧ Q (.str (cutS x lo hi))
  | _, _, _, _ => False
theorem HTsIx_map {n m : Nat} (h : n = m) (k : Nat) (o : Option Int) : HT.sIx n k o = HT.sIx m k o := by rw [h]
theorem cut_dps {M : Md} {B : Hp} {xs : List V} {ds : List D} (h : Dps M B xs ds) (lo hi : Option Int) : Dps M B (cutV xs lo hi) (cutD ds lo hi) := by
  unfold cutV cutD
  rw [h.length]
  exact (h.drop _).take _
abbrev rCutAll (K : PySem.W.Frag) : V → Option Int → Option Int → Hp → VK → Prop := fun x lo hi H Q => rSlL K x lo hi H Q ∨ (fun x lo hi H Q => rSlF K x lo hi H Q ∨ rSlS x lo hi H Q) x lo hi H Q
theorem slAll : SlR X (rCutAll X.K) := sl_list.or (sl_tupF.or sl_str)
theorem cut_whole {ds : List D} {lo hi : Option Int} (h1 : HT.sIx ds.length 0 lo = 0) (h2 : HT.sIx ds.length ds.length hi = ds.length) : cutD ds lo hi = ds := by
  unfold cutD
  rw [h1, h2]
  simp
theorem fCut_ok {M : Md} (R : Res) (Fz B H : Hp) (x : V) (dx : D) (lo hi : Option Int) (Qd : D → Prop) (Q : VK) (w : Wd R B Fz H) (hx : Dp M B x dx) (h : fCut dx lo hi Qd) (k : VP M R B Fz Qd Q) : rCutAll M.K x lo hi H Q := by
  unfold fCut at h
  split at h
  · cases hx with
    | lst s hx => exact .inl ⟨_, _, rfl, SqL.of (w.ex _ _ s), fun p hp => k _ _ _ _ (Ex.new (w.free hp)) (w.new hp) (.lst upd_same ((cut_dps hx lo hi).mono (Ex.new (w.free hp)))) h⟩
  · cases hx with
    | tup s hx =>
      refine .inr (.inl ⟨_, _, rfl, w.ex.st s.st, fun q => ?_, fun _ p o hp ho => k _ _ _ _ (Ex.new (w.free hp)) (w.new hp) (.tup (.new ho) ((cut_dps hx lo hi).mono (Ex.new (w.free hp)))) h⟩)
      rw [hx.length] at q
      rw [cut_whole q.1 q.2] at h
      exact k _ H B _ (Ex.refl B) w (.tup s hx) h
  · cases hx
    exact .inr (.inr ⟨_, rfl, h.1, k _ H B _ (Ex.refl B) w (.str _) h.2⟩)
  · exact h.elim
def dSl (f : FS) (t : DT) (tl th : DO) : DT := fun R ρ Q E => t R ρ (fun R d => tl R ρ (fun R lo => th R ρ (fun R hi => f d lo hi (Q R)) E) E) E
theorem de_slice {lo hi : Option Expr} {tl th : DO} {p2 : Pos} (he : DE X W e t) (hl : DPo X W lo tl) (hu : DPo X W hi th) : DE X W (.Subscript e (.Slice lo hi none p2) pos) (dSl fCut t tl th) :=
  (pe_slice slAll he hl hu).imp fun σ H Q ⟨R, Fz, B, ρ, Qd, E, w, sl, q, k, x⟩ =>
    ⟨R, Fz, B, ρ, _, E, w, sl, q, fun R v H1 B1 d e1 w1 h1 q1 => ⟨R, Fz, B1, ρ, _, E, w1, sl.mono e1, q1, fun R o H2 B2 e2 w2 q2 =>
      ⟨R, Fz, B2, ρ, _, E, w2, (sl.mono e1).mono e2, q2, fun R o' H3 B3 e3 w3 q3 => fCut_ok R Fz B3 H3 v d o o' _ Q w3 (h1.mono (e2.trans e3)) q3 ((k.mono ((e1.trans e2).trans e3)).at R), x.mono (e1.trans e2)⟩, x.mono e1⟩, x⟩
def dUn (f : D → (D → Prop) → Prop) (t : DT) : DT := fun R ρ Q E => t R ρ (fun R d => f d (Q R)) E
def fNeg : D → (D → Prop) → Prop
  | .int i, Q => Q (.int (-i))
  | _, _ => False
theorem de_neg (ha : DE X W a ta) : DE X W (.UnaryOp .USub a pos) (dUn fNeg ta) := (pe_un un_neg ha).imp fun σ H Q ⟨R, Fz, B, ρ, Qd, E, w, sl, q, k, x⟩ =>
  ⟨R, Fz, B, ρ, _, E, w, sl, q, fun R v H1 B1 d e1 w1 h1 q1 => by
    have q1 : fNeg d (Qd R) := q1
    unfold fNeg at q1
    split at q1
    · cases h1; exact ⟨_, rfl, k R _ H1 B1 _ e1 w1 (.int _) q1⟩
    · exact q1.elim, x⟩

/-! ### calls of the program's own -/
abbrev DSp := Res → List D → DQ → DX → Prop
def spL (M : Md) (sp : DSp) : Sp := fun vs H Q E => ∃ (R : Res) (Fz B : Hp) (ds : List D) (Qd : DQ) (Ed : DX), Wd R B Fz H ∧ Dps M B vs ds ∧ sp R ds Qd Ed ∧ VL M B Fz Qd Q ∧
  ∀ (R : Res) (c : Str) (C dd : Addr) (H' B' : Hp) (us : List (Str × V)) (fs : List (Str × D)), M.mg c = some (.ref C) → Ex B B' → Wd R B' Fz H' → B' dd = some (.xd us) → Dpf M B' us fs → Ed R c fs → E (.ref C) (some dd) H'
def dCall (sp : DSp) (ta : DA) : DT := fun R ρ Q E => ta R ρ (fun R ds => sp R ds Q E) E
theorem de_call {k : Nat} {f : Addr} {fd : FuncData} {ps : List Str} {sp : DSp} {x : Str} {p : Pos} (F : FnOk X.prog X.w X.K X.mg X.base (L2.CX X.prog X.w) k f fd ps (spL X.md sp)) (hr : Room k X.A) (hg : Gl X x) (hm : X.mg x = some (.ref f)) (hk : PySem.W.keepIn X.K (.ref f) = true)
    (hb : Binds X.K fd ps []) (tk : Takes X W) (ha : DAs X W (e :: es) tr) (hdb : (x == ("__debug__" : Str)) = false := by decide) (he : starEach (e :: es) X.env = (false, eval e X.env) :: starEach es X.env := by rfl) (hpl : (backTo pos (starEach es X.env)).any (·.1) = false := by rfl) :
    DE X W (.Call (.Name x p) (e :: es) [] pos) (dCall sp tr) :=
  (pe_callS F hr hg hm hk hb (fun σ => passAt tk σ) ha hdb he hpl).imp fun σ H Q ⟨R, Fz, B, ρ, Qd, E, w, sl, q, k, x⟩ =>
    ⟨R, Fz, B, ρ, _, E, w, sl, q, fun R vs H1 B1 ds e1 w1 h1 q1 => ⟨R, Fz, B1, ds, Qd, E, w1, h1, q1, k.mono e1, fun R c C dd H' B' us fs m e2 w2 hd hf he => x R c C dd H' B' us fs m (e1.trans e2) w2 hd hf he⟩, x⟩
end
end DL

set_option Elab.async false
set_option linter.all false
set_option maxRecDepth 100000
set_option maxHeartbeats 400000
namespace DL
open PySem L2

/-! ### what is walked -/
structure ItD (M : Md) (B : Hp) (J : It) (ds : List D) : Prop where
  go : ∀ (R : Res) (Fz B2 H2 : Hp) (i : Nat), Ex B B2 → Wd R B2 Fz H2 → i < ds.length → J.go i H2
  yld : ∀ (R : Res) (Fz B2 H2 : Hp) (i : Nat) (x : V) (H3 : Hp), Ex B B2 → Wd R B2 Fz H2 → i < ds.length → J.yld i H2 x H3 → ∃ d B3, ds[i]? = some d ∧ Ex B2 B3 ∧ Wd R B3 Fz H3 ∧ Dp M B3 x d
  stop : ∀ (R : Res) (Fz B2 H2 : Hp) (i : Nat), Ex B B2 → Wd R B2 Fz H2 → ds.length ≤ i → J.stop i H2
section
variable {M : Md} {B : Hp} {a b : Addr} {xs ys : List V} {ds es : List D}
theorem get_lt {α : Type} {l : List α} {i : Nat} (h : i < l.length) : ∃ x, l[i]? = some x := ⟨l[i], List.getElem?_eq_getElem h⟩
theorem itd_list (s : SqL M.K B a xs) (h : Dps M B xs ds) : ItD M B (Itl M.K a) ds where
  go := fun R Fz B2 H2 i e w hi => by
    obtain ⟨x, hx⟩ := get_lt (l := xs) (i := i) (by rw [h.length]; exact hi)
    exact ⟨xs, x, (e.trans w.ex).sl s, hx⟩
  yld := fun R Fz B2 H2 i x H3 e w hi q => by
    obtain ⟨rfl, q⟩ := q
    obtain ⟨d, h1, h2⟩ := h.getV (q xs ((e.trans w.ex).sl s))
    exact ⟨d, B2, h1, Ex.refl B2, w, h2.mono e⟩
  stop := fun R Fz B2 H2 i e w hi => ⟨xs, (e.trans w.ex).sl s, by rw [h.length]; exact hi⟩
theorem itd_tup (s : SqT M.K B a xs) (h : Dps M B xs ds) : ItD M B (Itt M.K a) ds where
  go := fun R Fz B2 H2 i e w hi => by
    obtain ⟨x, hx⟩ := get_lt (l := xs) (i := i) (by rw [h.length]; exact hi)
    exact ⟨xs, x, (e.trans w.ex).st s, hx⟩
  yld := fun R Fz B2 H2 i x H3 e w hi q => by
    obtain ⟨rfl, q⟩ := q
    obtain ⟨d, h1, h2⟩ := h.getV (q xs ((e.trans w.ex).st s))
    exact ⟨d, B2, h1, Ex.refl B2, w, h2.mono e⟩
  stop := fun R Fz B2 H2 i e w hi => ⟨xs, (e.trans w.ex).st s, by rw [h.length]; exact hi⟩
def signsD (x : Str) : List D := x.cps.toList.map fun c => .str ⟨#[c]⟩
theorem itd_str (x : Str) : ItD M B (Its x) (signsD x) where
  go := fun R Fz B2 H2 i e w hi => by unfold signsD at hi; rw [List.length_map, Array.length_toList] at hi; exact hi
  yld := fun R Fz B2 H2 i v H3 e w hi q => by
    obtain ⟨rfl, c, hc, rfl⟩ := q
    refine ⟨.str ⟨#[c]⟩, B2, ?_, Ex.refl B2, w, .str _⟩
    unfold signsD
    rw [List.getElem?_map, Array.getElem?_toList, hc]; rfl
  stop := fun R Fz B2 H2 i e w hi => by unfold signsD at hi; rw [List.length_map, Array.length_toList] at hi; exact hi
def rangeD (lo : Int) (n : Nat) : List D := (List.range n).map fun i => .int (lo + (i : Nat))
theorem itd_range (lo : Int) (n : Nat) : ItD M B (Itr lo n) (rangeD lo n) where
  go := fun R Fz B2 H2 i e w hi => by unfold rangeD at hi; rw [List.length_map, List.length_range] at hi; exact hi
  yld := fun R Fz B2 H2 i v H3 e w hi q => by
    obtain ⟨rfl, rfl⟩ := q
    refine ⟨.int (lo + i), B2, ?_, Ex.refl B2, w, .int _⟩
    unfold rangeD at hi ⊢
    rw [List.length_map, List.length_range] at hi
    rw [List.getElem?_map, List.getElem?_range hi]; rfl
  stop := fun R Fz B2 H2 i e w hi => by unfold rangeD at hi; rw [List.length_map, List.length_range] at hi; exact hi
def zipD (xs ys : List D) : List D := List.zipWith (fun x y => .tpw [x, y]) xs ys
theorem zip_get {xs ys : List D} {i : Nat} {x y : D} (hx : xs[i]? = some x) (hy : ys[i]? = some y) : (zipD xs ys)[i]? = some (.tpw [x, y]) := by
  unfold zipD
  rw [List.getElem?_zipWith, hx, hy]
theorem itd_zip (s : SqL M.K B a xs) (h : Dps M B xs ds) (s2 : SqL M.K B b ys) (h2 : Dps M B ys es) : ItD M B (Itz M.K a b) (zipD ds es) where
  go := fun R Fz B2 H2 i e w hi => by
    unfold zipD at hi
    rw [List.length_zipWith] at hi
    obtain ⟨x, hx⟩ := get_lt (l := xs) (i := i) (by rw [h.length]; omega)
    obtain ⟨y, hy⟩ := get_lt (l := ys) (i := i) (by rw [h2.length]; omega)
    exact ⟨xs, ys, x, y, (e.trans w.ex).sl s, (e.trans w.ex).sl s2, hx, hy⟩
  yld := fun R Fz B2 H2 i v H3 e w hi q => by
    obtain ⟨T, x, y, rfl, hT, rfl, q1, q2⟩ := q
    obtain ⟨d1, k1, k2⟩ := h.getV (q1 xs ((e.trans w.ex).sl s))
    obtain ⟨d2, k3, k4⟩ := h2.getV (q2 ys ((e.trans w.ex).sl s2))
    have n := Ex.new (o := .tup [x, y]) (w.free hT)
    exact ⟨.tpw [d1, d2], _, zip_get k1 k3, n, w.new hT, .tpw (.inl (.inl upd_same)) (.cons (k2.mono (e.trans n)) (.cons (k4.mono (e.trans n)) .nil))⟩
  stop := fun R Fz B2 H2 i e w hi => by
    unfold zipD at hi
    rw [List.length_zipWith] at hi
    refine ⟨xs, ys, (e.trans w.ex).sl s, (e.trans w.ex).sl s2, ?_⟩
    rw [h.length, h2.length]; omega
theorem itd_zipT (s : SqT M.K B a xs) (h : Dps M B xs ds) (s2 : SqT M.K B b ys) (h2 : Dps M B ys es) : ItD M B (RZ.ItzT M.K a b) (zipD ds es) where
  go := fun R Fz B2 H2 i e w hi => by
    unfold zipD at hi
    rw [List.length_zipWith] at hi
    obtain ⟨x, hx⟩ := get_lt (l := xs) (i := i) (by rw [h.length]; omega)
    obtain ⟨y, hy⟩ := get_lt (l := ys) (i := i) (by rw [h2.length]; omega)
    exact ⟨xs, ys, x, y, (e.trans w.ex).st s, (e.trans w.ex).st s2, hx, hy⟩
  yld := fun R Fz B2 H2 i v H3 e w hi q => by
    obtain ⟨T, x, y, rfl, hT, rfl, q1, q2⟩ := q
    obtain ⟨d1, k1, k2⟩ := h.getV (q1 xs ((e.trans w.ex).st s))
    obtain ⟨d2, k3, k4⟩ := h2.getV (q2 ys ((e.trans w.ex).st s2))
    have n := Ex.new (o := .tup [x, y]) (w.free hT)
    exact ⟨.tpw [d1, d2], _, zip_get k1 k3, n, w.new hT, .tpw (.inl (.inl upd_same)) (.cons (k2.mono (e.trans n)) (.cons (k4.mono (e.trans n)) .nil))⟩
  stop := fun R Fz B2 H2 i e w hi => by
    unfold zipD at hi
    rw [List.length_zipWith] at hi
    refine ⟨xs, ys, (e.trans w.ex).st s, (e.trans w.ex).st s2, ?_⟩
    rw [h.length, h2.length]; omega
def enumD (k : Int) : List D → List D
  | [] => []
  | d :: r => .tpw [.int k, d] :: enumD (k + 1) r
theorem enum_len : ∀ (k : Int) (ds : List D), (enumD k ds).length = ds.length
  | _, [] => rfl
  | k, _ :: r => by show (enumD (k + 1) r).length + 1 = _; rw [enum_len (k + 1) r]; rfl
theorem enum_get : ∀ (k : Int) (ds : List D) (i : Nat) (d : D), ds[i]? = some d → (enumD k ds)[i]? = some (.tpw [.int (k + i), d])
  | _, [], _, _, h => by simp at h
  | k, _ :: r, 0, d, h => by
    simp at h; subst h
    show some _ = some _
    rw [show k + ((0 : Nat) : Int) = k from Int.add_zero k]
  | k, x :: r, i + 1, d, h => by
    have := enum_get (k + 1) r i d (by simpa using h)
    show (enumD (k + 1) r)[i]? = _
    rw [this, show k + 1 + (i : Int) = k + ((i + 1 : Nat) : Int) by omega]
theorem itd_enum (s : SqL M.K B a xs) (h : Dps M B xs ds) : ItD M B (Ite M.K a) (enumD 0 ds) where
  go := fun R Fz B2 H2 i e w hi => by
    rw [enum_len] at hi
    obtain ⟨x, hx⟩ := get_lt (l := xs) (i := i) (by rw [h.length]; exact hi)
    exact ⟨xs, x, (e.trans w.ex).sl s, hx⟩
  yld := fun R Fz B2 H2 i v H3 e w hi q => by
    obtain ⟨T, x, rfl, hT, rfl, q1⟩ := q
    obtain ⟨d1, k1, k2⟩ := h.getV (q1 xs ((e.trans w.ex).sl s))
    have n := Ex.new (o := .tup [.int (i : Nat), x]) (w.free hT)
    have g := enum_get 0 ds i d1 k1
    rw [Int.zero_add] at g
    exact ⟨_, _, g, n, w.new hT, .tpw (.inl (.inl upd_same)) (.cons (.int _) (.cons (k2.mono (e.trans n)) .nil))⟩
  stop := fun R Fz B2 H2 i e w hi => by
    rw [enum_len] at hi
    exact ⟨xs, (e.trans w.ex).sl s, by rw [h.length]; exact hi⟩
end
abbrev DI := DA
def liftI (M : Md) (W : WX) (t : DI) : TI := fun σ H RR => ∃ (R : Res) (Fz B : Hp) (ρ : Env) (Qd : Res → List D → Prop) (E : DX), Wd R B Fz H ∧ Slots M B σ ρ ∧ t R ρ Qd E ∧
  (∀ (R : Res) (J : It) (H' B' : Hp) (ds : List D), Ex B B' → Wd R B' Fz H' → ItD M B' J ds → Qd R ds → RR J H') ∧ XL M W B Fz σ E
abbrev DIt (X : Cx) (W : WX) (tg e : Expr) (t : DI) : Prop := PI X tg e (liftI X.md W t)
theorem _root_.L2.PI.imp {X : Cx} {tg e : Expr} {t t' : TI} (h : PI X tg e t) (f : ∀ σ H Q, t' σ H Q → t σ H Q) : PI X tg e t' := ⟨fun pins s σ H Q I q => h.run pins s σ H Q I (f σ H Q q)⟩
section
variable {X : Cx} {W : WX} {a b c e e2 tg : Expr} {es rest : List Expr} {ta tb tc t : DT} {tA tB' : DB} {tr : DA} {pos : Pos}
def itemsD : D → Option (List D)
  | .lst ds => some ds | .tup ds => some ds | .frl ds => some ds | .str x => some (signsD x) | _ => none
def dItems (t : DT) : DI := fun R ρ Q E => t R ρ (fun R d => ∃ ds, itemsD d = some ds ∧ Q R ds) E
/-- a list, a tuple, a text, whichever it is -/
def iAny (K : PySem.W.Frag) (te : TE) : TI := fun σ H RR => te σ H fun x H1 => (∃ a xs, x = .ref a ∧ SqL K H1 a xs ∧ RR (Itl K a) H1) ∨ (∃ a xs, x = .ref a ∧ SqT K H1 a xs ∧ RR (Itt K a) H1) ∨ ∃ z, x = .str z ∧ RR (Its z) H1
theorem pi_any {te : TE} (he : PE X e te) : PI X tg e (iAny X.K te) := ⟨fun pins s σ H RR I hh => thn (he.run pins s σ H _ I hh) fun v s1 ⟨x, H1, I1, r1, q1⟩ => by
  rcases q1 with ⟨a, xs, rfl, hq, q⟩ | ⟨a, xs, rfl, hq, q⟩ | ⟨z, rfl, q⟩
  · cases r1
    obtain ⟨its, rv, p, hz⟩ := I1.list hq
    exact wpAny_pyIter_list p.isList (pi_one (tk := s1.toks) I1 _ (turn_list a _) ⟨_, Heap.get?_push_size _ rfl, rfl, rfl⟩ q)
  · cases r1
    obtain ⟨its, rv, p, hz⟩ := I1.tuple hq
    exact wpAny_pyIter_tuple p (pi_one (tk := s1.toks) I1 _ (turn_tuple a _) ⟨_, Heap.get?_push_size _ rfl, rfl, rfl⟩ q)
  · obtain ⟨t, rfl⟩ := r1
    cases ha : z.cps.all (· < 128)
    · exact wpAny_pyIter_wide ha (pi_one (tk := s1.toks) I1 _ (turn_str _ z t "str_iterator" (.inr rfl)) ⟨_, Heap.get?_push_size _ rfl, rfl, rfl⟩ q)
    · exact wpAny_pyIter_ascii ha (pi_one (tk := s1.toks) I1 _ (turn_str _ z t "str_ascii_iterator" (.inl rfl)) ⟨_, Heap.get?_push_size _ rfl, rfl, rfl⟩ q)⟩
theorem di_any (he : DE X W e t) : DIt X W tg e (dItems t) := (pi_any he).imp fun σ H Q ⟨R, Fz, B, ρ, Qd, E, w, sl, q, k, x⟩ =>
  ⟨R, Fz, B, ρ, _, E, w, sl, q, fun R v H1 B1 d e1 w1 h1 ⟨ds, hd, q1⟩ => by
    cases h1 with
    | lst s h => cases hd; exact .inl ⟨_, _, rfl, SqL.of (w1.ex _ _ s), k R _ H1 B1 _ e1 w1 (itd_list (SqL.of s) h) q1⟩
    | frl s h => cases hd; exact .inl ⟨_, _, rfl, w1.ex.sl s, k R _ H1 B1 _ e1 w1 (itd_list s h) q1⟩
    | tup s h => cases hd; exact .inr (.inl ⟨_, _, rfl, w1.ex.st s.st, k R _ H1 B1 _ e1 w1 (itd_tup s.st h) q1⟩)
    | str z => cases hd; exact .inr (.inr ⟨z, rfl, k R _ H1 B1 _ e1 w1 (itd_str z) q1⟩)
    | _ => (cases hd), x⟩
def dRange1 (ta : DA) : DI := fun R ρ Q E => ta R ρ (fun R ds => ∃ j : Int, ds = [.int j] ∧ -(2 ^ 62) ≤ j ∧ j < 2 ^ 62 ∧ Q R (rangeD 0 j.toNat)) E
def dRange2 (ta : DA) : DI := fun R ρ Q E => ta R ρ (fun R ds => ∃ i j : Int, ds = [.int i, .int j] ∧ (-(2 ^ 62) ≤ i ∧ i < 2 ^ 62 ∧ -(2 ^ 62) ≤ j ∧ j < 2 ^ 62) ∧ Q R (rangeD i (j - i).toNat)) E
theorem Dps.ofInt1 {M : Md} {B : Hp} {vs : List V} {j : Int} (h : Dps M B vs [.int j]) : vs = [.int j] := by
  cases h with | cons h t => cases t; cases h; rfl
theorem Dps.ofInt2 {M : Md} {B : Hp} {vs : List V} {i j : Int} (h : Dps M B vs [.int i, .int j]) : vs = [.int i, .int j] := by
  cases h with | cons h t => cases h; rw [t.ofInt1]
theorem di_range1 {p : Pos} (hg : Gl X "range") (hm : X.mg "range" = none) (ha : DAs X W [a] tr) (hs : starEach [a] X.env = [(false, eval a X.env)] := by rfl) : DIt X W tg (.Call (.Name "range" p) [a] [] pos) (dRange1 tr) :=
  (pi_range1 hg hm ha hs).imp fun σ H Q ⟨R, Fz, B, ρ, Qd, E, w, sl, q, k, x⟩ => ⟨R, Fz, B, ρ, _, E, w, sl, q, fun R vs H1 B1 ds e1 w1 h1 ⟨j, hj, b1, b2, q1⟩ => by
    subst hj
    exact ⟨j, h1.ofInt1, b1, b2, k R _ H1 B1 _ e1 w1 (itd_range 0 _) q1⟩, x⟩
theorem di_range2 {p : Pos} (hg : Gl X "range") (hm : X.mg "range" = none) (ha : DAs X W [a, b] tr) (hs : starEach [a, b] X.env = [(false, eval a X.env), (false, eval b X.env)] := by rfl) (hs2 : starEach [b] X.env = [(false, eval b X.env)] := by rfl) : DIt X W tg (.Call (.Name "range" p) [a, b] [] pos) (dRange2 tr) :=
  (pi_range2 hg hm ha hs hs2).imp fun σ H Q ⟨R, Fz, B, ρ, Qd, E, w, sl, q, k, x⟩ => ⟨R, Fz, B, ρ, _, E, w, sl, q, fun R vs H1 B1 ds e1 w1 h1 ⟨i, j, hj, b1, q1⟩ => by
    subst hj
    exact ⟨i, j, h1.ofInt2, b1, k R _ H1 B1 _ e1 w1 (itd_range i _) q1⟩, x⟩
/-- zip of two lists, of two tuples -/
def dZip (ta : DA) : DI := fun R ρ Q E => ta R ρ (fun R ds => (∃ xs ys, ds = [.lst xs, .lst ys] ∧ Q R (zipD xs ys)) ∨ ∃ xs ys, ds = [.tup xs, .tup ys] ∧ Q R (zipD xs ys)) E
theorem di_zip {p tpos : Pos} {elts : List Expr} {kk : Nat} (hg : Gl X "zip") (hm : X.mg "zip" = none) (ha : DAs X W [e, e2] tr) (hs : starEach [e, e2] X.env = (false, eval e X.env) :: starEach [e2] X.env := by rfl)
    (hpl : (backTo pos (starEach [e2] X.env)).any (·.1) = false := by rfl) : DIt X W (.Tuple elts kk tpos) (.Call (.Name "zip" p) [e, e2] [] pos) (dZip tr) :=
  (RZ.pi_zipA hg hm ha hs hpl).imp fun σ H Q ⟨R, Fz, B, ρ, Qd, E, w, sl, q, k, x⟩ => ⟨R, Fz, B, ρ, _, E, w, sl, q, fun R vs H1 B1 ds e1 w1 h1 q1 => by
    rcases q1 with ⟨xs, ys, rfl, q1⟩ | ⟨xs, ys, rfl, q1⟩
    · cases h1 with
      | cons h1 t => cases t with
        | cons h2 t => cases t; cases h1 with
          | lst s h1 => cases h2 with
            | lst s2 h2 => exact ⟨_, _, _, _, rfl, .inl ⟨SqL.of (w1.ex _ _ s), SqL.of (w1.ex _ _ s2), k R _ H1 B1 _ e1 w1 (itd_zip (SqL.of s) h1 (SqL.of s2) h2) q1⟩⟩
    · cases h1 with
      | cons h1 t => cases t with
        | cons h2 t => cases t; cases h1 with
          | tup s h1 => cases h2 with
            | tup s2 h2 => exact ⟨_, _, _, _, rfl, .inr ⟨w1.ex.st s.st, w1.ex.st s2.st, k R _ H1 B1 _ e1 w1 (itd_zipT s.st h1 s2.st h2) q1⟩⟩, x⟩
def dEnum (ta : DA) : DI := fun R ρ Q E => ta R ρ (fun R ds => ∃ xs, ds = [.lst xs] ∧ Q R (enumD 0 xs)) E
theorem di_enum {p tpos : Pos} {elts : List Expr} {kk : Nat} (hg : Gl X "enumerate") (hm : X.mg "enumerate" = none) (ha : DAs X W [e] tr) (hs : starEach [e] X.env = [(false, eval e X.env)] := by rfl) :
    DIt X W (.Tuple elts kk tpos) (.Call (.Name "enumerate" p) [e] [] pos) (dEnum tr) :=
  (pi_enum hg hm ha hs).imp fun σ H Q ⟨R, Fz, B, ρ, Qd, E, w, sl, q, k, x⟩ => ⟨R, Fz, B, ρ, _, E, w, sl, q, fun R vs H1 B1 ds e1 w1 h1 ⟨xs, hx, q1⟩ => by
    subst hx
    cases h1 with
    | cons h1 t => cases t; cases h1 with
      | lst s h1 => exact ⟨_, _, rfl, SqL.of (w1.ex _ _ s), k R _ H1 B1 _ e1 w1 (itd_enum (SqL.of s) h1) q1⟩, x⟩
end
end DL

set_option Elab.async false
set_option linter.all false
set_option maxRecDepth 100000
set_option maxHeartbeats 400000
namespace DL
open PySem L2

/-! ### targets: names, tuples of them -/
abbrev DG := D → Env → (Env → Prop) → Prop
/-- only the slots js change -/
def SameBut (js : List Nat) (σ σ' : L2.St) : Prop := σ'.length = σ.length ∧ ∀ i, i ∉ js → σ'[i]? = σ[i]?
theorem SameBut.refl (js : List Nat) (σ : L2.St) : SameBut js σ σ := ⟨rfl, fun _ _ => rfl⟩
theorem SameBut.trans {js : List Nat} {σ σ1 σ2 : L2.St} (a : SameBut js σ σ1) (b : SameBut js σ1 σ2) : SameBut js σ σ2 := ⟨b.1.trans a.1, fun i h => (b.2 i h).trans (a.2 i h)⟩
theorem SameBut.mono {js ks : List Nat} {σ σ' : L2.St} (a : SameBut js σ σ') (h : ∀ i ∈ js, i ∈ ks) : SameBut ks σ σ' := ⟨a.1, fun i n => a.2 i fun m => n (h i m)⟩
theorem SameBut.set {σ : L2.St} {i : Nat} {x : Option V} : SameBut [i] σ (σ.set i x) := ⟨by rw [List.length_set], fun j h => List.getElem?_set_ne (fun e => h (by simp [e]))⟩
theorem wipe_get (σ : L2.St) : ∀ (vs : List Nat) (i : Nat), (L2.wipe σ vs)[i]? = if i ∈ vs ∧ i < σ.length then some none else σ[i]?
  | [], i => by simp [L2.wipe]
  | v :: vs, i => by
    unfold L2.wipe
    by_cases hv : v = i
    · subst hv
      by_cases hl : v < σ.length
      · rw [List.getElem?_set_self (by rw [wipe_length]; exact hl), if_pos ⟨List.mem_cons_self .., hl⟩]
      · rw [if_neg (fun h => hl h.2), List.getElem?_eq_none (by rw [List.length_set, wipe_length]; omega), List.getElem?_eq_none (by omega)]
    · rw [List.getElem?_set_ne hv, wipe_get σ vs i]
      have : (i ∈ v :: vs ∧ i < σ.length) = (i ∈ vs ∧ i < σ.length) := by
        rw [List.mem_cons]; simp [Ne.symm hv]
      simp only [this]
theorem wipe_same {σ σ2 : L2.St} {vs : List Nat} (h : SameBut vs (L2.wipe σ vs) σ2) : L2.wipe σ2 vs = L2.wipe σ vs := by
  apply List.ext_getElem?
  intro i
  have hl : σ2.length = σ.length := by rw [h.1, wipe_length]
  rw [wipe_get, wipe_get, hl]
  by_cases q : i ∈ vs
  · by_cases ql : i < σ.length
    · rw [if_pos ⟨q, ql⟩, if_pos ⟨q, ql⟩]
    · rw [if_neg (fun z => ql z.2), if_neg (fun z => ql z.2), List.getElem?_eq_none (by omega), List.getElem?_eq_none (by omega)]
  · rw [if_neg (fun z => q z.1), if_neg (fun z => q z.1), h.2 i q, wipe_get, if_neg (fun z => q z.1)]
def liftG (M : Md) (js : List Nat) (t : DG) : TG := fun v σ H Q => ∃ (B : Hp) (ρ : Env) (d : D) (Qd : Env → Prop), Ex B H ∧ Slots M B σ ρ ∧ Dp M B v d ∧ t d ρ Qd ∧ ∀ (σ' : L2.St) (ρ' : Env), SameBut js σ σ' → Slots M B σ' ρ' → Qd ρ' → Q σ' H
theorem _root_.L2.PG.imp {X : Cx} {e : Expr} {t t' : TG} (h : PG X e t) (f : ∀ v σ H Q, t' v σ H Q → t v σ H Q) : PG X e t' := ⟨fun pins s σ H v u Q I r q => h.run pins s σ H v u Q I r (f v σ H Q q)⟩
theorem _root_.L2.PGs.imp {X : Cx} {e : List Expr} {t t' : TGs} (h : PGs X e t) (f : ∀ v σ H Q, t' v σ H Q → t v σ H Q) : PGs X e t' := ⟨fun pins s σ H v u Q I r q => h.run pins s σ H v u Q I r (f v σ H Q q)⟩
abbrev DGt (X : Cx) (js : List Nat) (e : Expr) (t : DG) : Prop := PG X e (liftG X.md js t)
abbrev DGl := List D → Env → (Env → Prop) → Prop
def liftGl (M : Md) (js : List Nat) (t : DGl) : TGs := fun v σ H Q => ∃ (B : Hp) (ρ : Env) (d : List D) (Qd : Env → Prop), Ex B H ∧ Slots M B σ ρ ∧ Dps M B v d ∧ t d ρ Qd ∧ ∀ (σ' : L2.St) (ρ' : Env), SameBut js σ σ' → Slots M B σ' ρ' → Qd ρ' → Q σ' H
abbrev DGts (X : Cx) (js : List Nat) (e : List Expr) (t : DGl) : Prop := PGs X e (liftGl X.md js t)
def gdName (i : Nat) : DG := fun d ρ Q => Q (ρ.set i (some d))
def gdNil : DGl := fun ds ρ Q => ds = [] ∧ Q ρ
def gdCons (t : DG) (u : DGl) : DGl := fun ds ρ Q => ∃ d r, ds = d :: r ∧ t d ρ fun ρ' => u r ρ' Q
def gdTup (t : DGl) : DG := fun d ρ Q => ∃ ds, (d = .tup ds ∨ d = .tpw ds) ∧ t ds ρ Q
section
variable {X : Cx} {W : WX} {a b c e e2 tg : Expr} {es rest : List Expr} {ta tb tc t : DT} {tA tB' : DB} {tr : DA} {pos : Pos} {js : List Nat} {g : DG} {gl : DGl}
theorem dg_name {i : Nat} {x : Str} (hN : X.N.Nodup) (hi : X.N[i]? = some x) (hx : Loc X.env.scope x) (hj : i ∈ js) (hf : X.fn x = true ∨ X.env.scope.names.lookup x = some .local := by first | exact .inl rfl | exact .inr rfl | assumption) : DGt X js (.Name x pos) (gdName i) :=
  (pg_name hN hi hx hf).imp fun v σ H Q ⟨B, ρ, d, Qd, ex, sl, hd, q, k⟩ => k _ _ (SameBut.set.mono (fun j m => by simp at m; rw [m]; exact hj)) (sl.set hd) q
theorem dgs_nil : DGts X js [] gdNil := pgs_nil.imp fun v σ H Q ⟨B, ρ, d, Qd, ex, sl, hd, ⟨q1, q⟩, k⟩ => by
  subst q1; cases hd; exact ⟨rfl, k σ ρ (SameBut.refl _ _) sl q⟩
theorem dgs_cons (h1 : DGt X js e g) (h2 : DGts X js es gl) (hs : (assignEach (e :: es) X.env).map (·.2) = assign e X.env :: (assignEach es X.env).map (·.2) := by rfl) : DGts X js (e :: es) (gdCons g gl) :=
  (pgs_cons h1 h2 hs).imp fun v σ H Q ⟨B, ρ, d, Qd, ex, sl, hd, ⟨d1, r, q1, q⟩, k⟩ => by
    subst q1
    cases hd with
    | cons hd ht => exact ⟨_, _, rfl, B, ρ, d1, _, ex, sl, hd, q, fun σ1 ρ1 s1 sl1 q1 => ⟨B, ρ1, r, Qd, ex, sl1, ht, q1, fun σ2 ρ2 s2 sl2 q2 => k σ2 ρ2 (s1.trans s2) sl2 q2⟩⟩
theorem dg_tup {k : Nat} {n : Nat} (hc : X.calm = true) (h : DGts X js es gl) (hn : (assignEach es X.env).length = n := by rfl) (hst : (assignEach es X.env).findIdx? (·.1) = none := by rfl) (hl : ∀ ds ρ Q, gl ds ρ Q → ds.length = n) : DGt X js (.Tuple es k pos) (gdTup gl) :=
  (pg_tup hc h hn hst).imp fun v σ H Q ⟨B, ρ, d, Qd, ex, sl, hd, ⟨ds, q1, q⟩, k⟩ => by
    rcases q1 with q1 | q1
    · subst q1
      cases hd with
      | tup s hd => exact ⟨_, _, rfl, ex.st s.st, by rw [hd.length]; exact hl _ _ _ q, B, ρ, ds, Qd, ex, sl, hd, q, k⟩
    · subst q1
      cases hd with
      | tpw s hd => exact ⟨_, _, rfl, ex.st s, by rw [hd.length]; exact hl _ _ _ q, B, ρ, ds, Qd, ex, sl, hd, q, k⟩
theorem gl_nil : ∀ ds ρ Q, gdNil ds ρ Q → ds.length = 0 := fun ds ρ Q h => by rw [h.1]; rfl
theorem gl_cons {n : Nat} (h : ∀ ds ρ Q, gl ds ρ Q → ds.length = n) (mono : ∀ d ρ Q, g d ρ Q → ∃ ρ', Q ρ') : ∀ ds ρ Q, gdCons g gl ds ρ Q → ds.length = n + 1 := fun ds ρ Q ⟨d, r, e, q⟩ => by
  obtain ⟨ρ', q'⟩ := mono _ _ _ q
  rw [e, List.length_cons, h _ _ _ q']
theorem mono_name {i : Nat} : ∀ d ρ Q, gdName i d ρ Q → ∃ ρ', Q ρ' := fun _ _ _ h => ⟨_, h⟩

/-! ### list comprehensions -/
def noX : DX := fun _ _ _ => False
def W0 : WX := fun _ _ _ _ => False
def lcGo (g : DG) (tt : DB) (te : DT) (ρ : Env) : List D → List D → Res → (Res → List D → Prop) → Prop
  | [], acc, R, Q => Q R acc
  | d :: r, acc, R, Q => g d ρ fun ρ2 => tt R ρ2 (fun R b => if b = true then te R ρ2 (fun R y => acc.length < sizeLine ∧ lcGo g tt te ρ r (acc ++ [y]) R Q) noX else lcGo g tt te ρ r acc R Q) noX
def dLc (ti : DI) (g : DG) (tt : DB) (te : DT) (vs : List Nat) : DT := fun R ρ Q E => ti R ρ (fun R ds => lcGo g tt te (wipeD ρ vs) ds [] R fun R out => Q R (.lst out)) E
theorem XL.no {M : Md} {B Fz : Hp} {σ : L2.St} : XL M W0 B Fz σ noX := fun _ _ _ _ _ _ _ _ _ _ _ _ _ h => h
theorem lc_lift {M : Md} {ti : DI} {g : DG} {tt : DB} {te : DT} {vs js : List Nat} (hj : ∀ i ∈ js, i ∈ vs) {σ : L2.St} {H : Hp} {Q : VK} (h : lift M W (dLc ti g tt te vs) σ H Q) :
    tLc (liftI M W ti) (liftG M js g) (liftB M W0 tt) (lift M W0 te) vs σ H Q := by
  obtain ⟨R, Fz, B, ρ, Qd, E, w, sl, q, k, x⟩ := h
  refine ⟨R, Fz, B, ρ, _, E, w, sl, q, fun R1 J H1 B1 ds e1 w1 it q1 Dl hD => ?_, x⟩
  have sl1 := (sl.mono e1).wipe vs
  refine ⟨fun i m H' => m = ds.length - i ∧ i ≤ ds.length ∧ ∃ R B' av acc, Ex B1 B' ∧ Wd R B' (upd Fz Dl (.lst av)) H' ∧ Dps M B' av acc ∧ lcGo g tt te (wipeD ρ vs) (ds.drop i) acc R (fun R out => Qd R (.lst out)),
    ⟨ds.length, by omega, Nat.zero_le _, R1, B1, [], [], Ex.refl _, w1.own hD, .nil, q1⟩, ?_⟩
  rintro i m H' ⟨hm, hi, R2, B', av, acc, e2, w2, ha, q2⟩
  by_cases hlt : i < ds.length
  · obtain ⟨d, hd⟩ := get_lt hlt
    have hdr : ds.drop i = d :: ds.drop (i + 1) := by
      rw [List.drop_eq_getElem_cons hlt]
      congr 1
      rw [List.getElem?_eq_getElem hlt] at hd
      exact Option.some.inj hd
    rw [hdr] at q2
    refine .inr ⟨it.go R2 _ B' H' i e2 w2 hlt, fun H3 => ∃ R3 B3 av3 acc3, Ex B1 B3 ∧ Wd R3 B3 (upd Fz Dl (.lst av3)) H3 ∧ Dps M B3 av3 acc3 ∧ lcGo g tt te (wipeD ρ vs) (ds.drop (i + 1)) acc3 R3 (fun R out => Qd R (.lst out)),
      fun H3 ⟨R3, B3, av3, acc3, z1, z2, z3, z4⟩ => ⟨ds.length - (i + 1), by omega, rfl, hlt, R3, B3, av3, acc3, z1, z2, z3, z4⟩, fun v H3 hy => ?_⟩
    obtain ⟨d', B3, hd', e3, w3, hv⟩ := it.yld R2 _ B' H' i v H3 e2 w2 hlt hy
    rw [hd] at hd'
    cases hd'
    refine ⟨B3, wipeD ρ vs, d, _, w3.ex, sl1.mono (e2.trans e3), hv, q2, fun σ2 ρ2 sb sl2 q3 => ⟨wipe_same (sb.mono hj), ?_⟩⟩
    refine ⟨R2, _, B3, ρ2, _, noX, w3, sl2, q3, fun R4 b H4 B4 e4 w4 q4 => ?_, XL.no⟩
    cases b with
    | true =>
      refine ⟨R4, _, B4, ρ2, _, noX, w4, sl2.mono e4, q4, fun R5 y H5 B5 dy e5 w5 hyd ⟨hz, q5⟩ => ?_, XL.no⟩
      have l1 : av.length = acc.length := ha.length
      refine ⟨av, w5.fz _ _ upd_same, by rw [l1]; exact hz, R5, B5, av ++ [y], acc ++ [dy], (((e2.trans e3).trans e4).trans e5), ?_, ((ha.mono ((e3.trans e4).trans e5)).append (.cons hyd .nil)), q5⟩
      have w6 := w5.turn (p := Dl) (o := .lst (av ++ [y])) (u := .lst av) upd_same (fun _ z => by cases z)
      rw [upd_upd] at w6
      exact w6
    | false => exact ⟨R4, B4, av, acc, ((e2.trans e3).trans e4), w4, ha.mono (e3.trans e4), q4⟩
  · refine .inl ⟨it.stop R2 _ B' H' i e2 w2 (by omega), ?_⟩
    have hdr : ds.drop i = [] := List.drop_eq_nil_of_le (by omega)
    rw [hdr] at q2
    have w3 := w2.give (p := Dl) (o := .lst av) upd_same (fun _ z => by cases z)
    have hF : cutH (upd Fz Dl (.lst av)) Dl = Fz := by
      funext z
      by_cases hz : z = Dl
      · subst hz; rw [cutH_same]; exact (w1.fz.free hD).symm
      · rw [cutH_ne hz, upd_ne hz]
    rw [hF] at w3
    have hB : B' Dl = none := w2.dis _ _ upd_same
    exact k R2 _ _ _ _ (e1.trans (e2.trans (Ex.new hB))) w3 (.lst upd_same (ha.mono (Ex.new hB))) q2
theorem _root_.L2.PTs.imp {X : Cx} {e : List Expr} {t t' : TT} (h : PTs X e t) (f : ∀ σ H Q, t' σ H Q → t σ H Q) : PTs X e t' := ⟨fun pins s σ H Q I q => h.run pins s σ H Q I (f σ H Q q)⟩
def dYes : DB := fun R _ Q _ => Q R true
theorem dts_nil : PTs X [] (liftB X.md W dYes) := pts_nil.imp fun σ H Q ⟨R, Fz, B, ρ, Qd, E, w, sl, q, k, x⟩ => k R true H B (Ex.refl B) w q
theorem dts_one (h : DTt X W a tA) : PTs X [a] (liftB X.md W tA) := pts_one h
theorem de_lc {iter elt : Expr} {ifs : List Expr} {scope : Scope} {own : List (Str × Nat)} {ti : DI} {tt : DB} {te : DT} (hc : X.calm = true) (hN : X.N.Nodup) (hi : DIt X W tg iter ti) (ok : BlkOk X.N X.env.scope scope own)
    (hg : ∀ (s : Shared) (H : Hp) (C : Addr) (cl : List (Str × Addr)) (fp : List Addr), DGt (X.blk s H scope (compEnvC scope cl C X.env) fp) js tg g)
    (ht : ∀ (s : Shared) (H : Hp) (C : Addr) (cl : List (Str × Addr)) (fp : List Addr), PTs (X.blk s H scope (compEnvC scope cl C X.env) fp) ifs (liftB X.md W0 tt))
    (he : ∀ (s : Shared) (H : Hp) (C : Addr) (cl : List (Str × Addr)) (fp : List Addr), DE (X.blk s H scope (compEnvC scope cl C X.env) fp) W0 elt te) (hj : ∀ i ∈ js, i ∈ own.map (·.2) := by decide) (hs : ∀ x, foldedSetIterable iter X.env x = pure x := by intro _; rfl) :
    DE X W (.ListComp elt [⟨tg, iter, ifs, 0⟩] scope pos) (dLc ti g tt te (own.map (·.2))) :=
  (pe_lc hc hN hi ok hg ht he hs).imp fun _ _ _ h => lc_lift hj h
end
end DL

set_option Elab.async false
set_option linter.all false
set_option maxRecDepth 100000
set_option maxHeartbeats 400000
namespace DL
open PySem L2

/-! ### statements -/
structure DEnds where
  nx : Res → Env → Prop
  rt : DQ
  bk : Res → Env → Prop := fun _ _ => False
  ct : Res → Env → Prop := fun _ _ => False
  ex : Res → Str → List (Str × D) → Env → Prop := fun _ _ _ _ => False
abbrev DSt := Res → DEnds → Env → Prop
/-- what an object of one's own holds -/
def OwnRep (M : Md) (B : Hp) (o : HO) : D → Prop
  | .lst ds => ∃ vs, o = .lst vs ∧ Dps M B vs ds
  | .dct ds => ∃ vs, o = .dK vs ∧ Dpk M B vs ds
  | .obj c fs => ∃ C dx vs, M.mg c = some (.ref C) ∧ o = .ins C dx vs ∧ Dpf M B vs fs
  | _ => False
theorem OwnRep.mono {M : Md} {B B' : Hp} {o : HO} {d : D} (e : Ex B B') (h : OwnRep M B o d) : OwnRep M B' o d := by
  cases d <;> first | exact h.elim | skip
  · obtain ⟨vs, h1, h2⟩ := h; exact ⟨vs, h1, h2.mono e⟩
  · obtain ⟨vs, h1, h2⟩ := h; exact ⟨vs, h1, h2.mono e⟩
  · obtain ⟨C, dx, vs, h0, h1, h2⟩ := h; exact ⟨C, dx, vs, h0, h1, h2.mono e⟩
theorem Dp.notOwn {M : Md} {B : Hp} {v : V} {d : D} (h : Dp M B v d) : d.isOwn = false := by cases h <;> rfl
structure SR (M : Md) (R : Res) (F0 B Fz H : Hp) (σ : L2.St) (ρ : Env) : Prop where
  wd : Wd R B Fz H
  sl : Slots M B σ ρ
  f0 : Ex F0 Fz
  s0 : ∃ o, F0 sysModules = some (sysO o)
  own : ∀ (i : Nat) (d : D), ρ[i]? = some (some (.own d)) → ∃ a o, σ[i]? = some (some (.ref a)) ∧ F0 a = none ∧ Fz a = some o ∧ OwnRep M B o d
  inj : ∀ (i j : Nat) (d e : D) (a : Addr), ρ[i]? = some (some (.own d)) → ρ[j]? = some (some (.own e)) → σ[i]? = some (some (.ref a)) → σ[j]? = some (some (.ref a)) → i = j
section
variable {M : Md} {R : Res} {F0 B Fz H B' H' : Hp} {σ : L2.St} {ρ : Env}
theorem SR.grow {R' : Res} (s : SR M R F0 B Fz H σ ρ) (e : Ex B B') (w : Wd R' B' Fz H') : SR M R' F0 B' Fz H' σ ρ :=
  ⟨w, s.sl.mono e, s.f0, s.s0, fun i d h => let ⟨a, o, h1, h2, h3, h4⟩ := s.own i d h; ⟨a, o, h1, h2, h3, h4.mono e⟩, s.inj⟩
theorem set_own {i j : Nat} {d : D} {x : Option D} (hx : ∀ y, x = some y → y.isOwn = false) (h : (ρ.set i x)[j]? = some (some (.own d))) : i ≠ j ∧ ρ[j]? = some (some (.own d)) := by
  by_cases q : i = j
  · subst q
    have hl : i < ρ.length := by
      have := (List.getElem?_eq_some_iff.mp h).1
      rw [List.length_set] at this; exact this
    rw [List.getElem?_set_self hl] at h
    have h' : x = some (.own d) := Option.some.inj h
    have := hx _ h'
    cases this
  · rw [List.getElem?_set_ne q] at h
    exact ⟨q, h⟩
theorem SR.set {i : Nat} {v : V} {d : D} (s : SR M R F0 B Fz H σ ρ) (h : Dp M B v d) : SR M R F0 B Fz H (σ.set i (some v)) (ρ.set i (some d)) where
  wd := s.wd
  sl := s.sl.set h
  f0 := s.f0
  s0 := s.s0
  own := fun j x e => by
    obtain ⟨ne, e⟩ := set_own (fun y hy => by cases hy; exact h.notOwn) e
    rw [List.getElem?_set_ne ne]
    exact s.own j x e
  inj := fun j k x y a e1 e2 e3 e4 => by
    obtain ⟨n1, e1⟩ := set_own (fun y hy => by cases hy; exact h.notOwn) e1
    obtain ⟨n2, e2⟩ := set_own (fun y hy => by cases hy; exact h.notOwn) e2
    rw [List.getElem?_set_ne n1] at e3
    rw [List.getElem?_set_ne n2] at e4
    exact s.inj j k x y a e1 e2 e3 e4
/-- slots that change by a target -/
theorem SR.same {js : List Nat} {σ' : L2.St} {ρ' : Env} (s : SR M R F0 B Fz H σ ρ) (sb : SameBut js σ σ') (sl : Slots M B σ' ρ') (ho : ∀ (i : Nat) (d : D), ρ'[i]? = some (some (.own d)) → i ∉ js ∧ ρ[i]? = some (some (.own d))) : SR M R F0 B Fz H σ' ρ' where
  wd := s.wd
  sl := sl
  f0 := s.f0
  s0 := s.s0
  own := fun j x e => by
    obtain ⟨n, e⟩ := ho j x e
    rw [sb.2 j n]
    exact s.own j x e
  inj := fun j k x y a e1 e2 e3 e4 => by
    obtain ⟨n1, e1⟩ := ho j x e1
    obtain ⟨n2, e2⟩ := ho k y e2
    rw [sb.2 j n1] at e3
    rw [sb.2 k n2] at e4
    exact s.inj j k x y a e1 e2 e3 e4
end
structure EL (M : Md) (W : WX) (F0 B : Hp) (De : DEnds) (En : Ends) : Prop where
  nx : ∀ (R : Res) (σ' : L2.St) (ρ' : Env) (B' Fz' H' : Hp), Ex B B' → SR M R F0 B' Fz' H' σ' ρ' → De.nx R ρ' → En.nx σ' H'
  rt : ∀ (R : Res) (v : V) (d : D) (B' H' : Hp), Ex B B' → Wd R B' F0 H' → Dp M B' v d → De.rt R d → En.rt v H'
  bk : ∀ (R : Res) (σ' : L2.St) (ρ' : Env) (B' Fz' H' : Hp), Ex B B' → SR M R F0 B' Fz' H' σ' ρ' → De.bk R ρ' → En.bk σ' H'
  ct : ∀ (R : Res) (σ' : L2.St) (ρ' : Env) (B' Fz' H' : Hp), Ex B B' → SR M R F0 B' Fz' H' σ' ρ' → De.ct R ρ' → En.ct σ' H'
  ex : ∀ (R : Res) (c : Str) (C dd : Addr) (H' B' Fz' : Hp) (vs : List (Str × V)) (fs : List (Str × D)) (σ' : L2.St) (ρ' : Env), M.mg c = some (.ref C) → Ex B B' → SR M R F0 B' Fz' H' σ' ρ' → B' dd = some (.xd vs) → Dpf M B' vs fs → De.ex R c fs ρ' → W (.ref C) (some dd) σ' H'
theorem EL.mono {M : Md} {W : WX} {F0 B B1 : Hp} {De : DEnds} {En : Ends} (x : EL M W F0 B De En) (e : Ex B B1) : EL M W F0 B1 De En :=
  ⟨fun R σ' ρ' B' Fz' H' q => x.nx R σ' ρ' B' Fz' H' (e.trans q), fun R v d B' H' q => x.rt R v d B' H' (e.trans q), fun R σ' ρ' B' Fz' H' q => x.bk R σ' ρ' B' Fz' H' (e.trans q), fun R σ' ρ' B' Fz' H' q => x.ct R σ' ρ' B' Fz' H' (e.trans q),
    fun R c C dd H' B' Fz' vs fs σ' ρ' m q => x.ex R c C dd H' B' Fz' vs fs σ' ρ' m (e.trans q)⟩
/-- an expression's exception at the statement -/
theorem EL.xl {M : Md} {W : WX} {R : Res} {F0 B Fz H : Hp} {De : DEnds} {En : Ends} {σ : L2.St} {ρ : Env} (x : EL M W F0 B De En) (s : SR M R F0 B Fz H σ ρ) : XL M W B Fz σ (fun R c fs => De.ex R c fs ρ) :=
  fun R c C dd H' B' vs fs m e w hd hf he => x.ex R c C dd H' B' Fz vs fs σ ρ m e (s.grow e w) hd hf he
def liftS (M : Md) (W : WX) (t : DSt) : TS := fun En σ H => ∃ (R : Res) (F0 B Fz : Hp) (ρ : Env) (De : DEnds), SR M R F0 B Fz H σ ρ ∧ t R De ρ ∧ EL M W F0 B De En
abbrev DS (X : Cx) (W : WX) (st : Stmt) (t : DSt) : Prop := PS X st (liftS X.md W t)
abbrev DSs (X : Cx) (W : WX) (st : List Stmt) (t : DSt) : Prop := PSs X st (liftS X.md W t)
section
variable {X : Cx} {W : WX} {a b c e e2 tg : Expr} {es rest : List Expr} {ta tb tc t : DT} {tA tB' : DB} {tr : DA} {pos : Pos} {js : List Nat} {g : DG} {gl : DGl} {st : Stmt} {sts sts2 : List Stmt} {ts tu : DSt}
def dSeq (t u : DSt) : DSt := fun R De ρ => t R { De with nx := fun R ρ => u R De ρ } ρ
def dNext : DSt := fun R De ρ => De.nx R ρ
theorem dss_nil : DSs X W [] dNext := pss_nil.imp fun En σ H ⟨R, F0, B, Fz, ρ, De, s, q, x⟩ => x.nx R σ ρ B Fz H (Ex.refl B) s q
theorem dss_cons (h1 : DS X W st ts) (h2 : DSs X W sts tu) : DSs X W (st :: sts) (dSeq ts tu) := (pss_cons h1 h2).imp fun En σ H ⟨R, F0, B, Fz, ρ, De, s, q, x⟩ =>
  ⟨R, F0, B, Fz, ρ, _, s, q, ⟨fun R σ' ρ' B' Fz' H' e s' q' => ⟨R, F0, B', Fz', ρ', De, s', q', x.mono e⟩, x.rt, x.bk, x.ct, x.ex⟩⟩
theorem dss_one (h1 : DS X W st ts) : DSs X W [st] ts := (pss_one h1).imp fun _ _ _ h => h
def dRet (t : DT) : DSt := fun R De ρ => t R ρ De.rt (fun R c fs => De.ex R c fs ρ)
theorem ds_ret (he : DE X W e t) : DS X W (.Return (some e) pos) (dRet t) := (ps_ret he).imp fun En σ H ⟨R, F0, B, Fz, ρ, De, s, q, x⟩ =>
  ⟨R, Fz, B, ρ, _, _, s.wd, s.sl, q, fun R v H' B' d e w h q1 => x.rt R v d B' H' e (w.less s.f0 s.s0) h q1, x.xl s⟩
def dRetN : DSt := fun R De _ => De.rt R .non
theorem ds_retN : DS X W (.Return none pos) dRetN := ps_retN.imp fun En σ H ⟨R, F0, B, Fz, ρ, De, s, q, x⟩ => x.rt R .non .non B H (Ex.refl B) (s.wd.less s.f0 s.s0) .non q
theorem ds_pass : DS X W (.Pass pos) dNext := ps_pass.imp fun En σ H ⟨R, F0, B, Fz, ρ, De, s, q, x⟩ => x.nx R σ ρ B Fz H (Ex.refl B) s q
def dNever : DSt := fun _ _ _ => False
theorem ds_never : DS X W st dNever := ⟨fun pins s σ H En I ⟨_, _, _, _, _, _, _, q, _⟩ => q.elim⟩
/-- name = e -/
def dSet (i : Nat) (t : DT) : DSt := fun R De ρ => t R ρ (fun R d => De.nx R (ρ.set i (some d))) (fun R c fs => De.ex R c fs ρ)
theorem set_lift {M : Md} {i : Nat} {En : Ends} {σ : L2.St} {H : Hp} (h : liftS M W (dSet i t) En σ H) : tAsg (lift M W t) (gName i) En σ H := by
  obtain ⟨R, F0, B, Fz, ρ, De, s, q, x⟩ := h
  exact ⟨R, Fz, B, ρ, _, _, s.wd, s.sl, q, fun R v H' B' d e w h q1 => x.nx R _ _ B' Fz H' e ((s.grow e w).set h) q1, x.xl s⟩
theorem ds_set {i : Nat} {x : Str} {pos' : Pos} (hN : X.N.Nodup) (hi : X.N[i]? = some x) (hx : Loc X.env.scope x) (he : DE X W e t) (hs : swapsWith e (some (.Name x pos')) pos.line X.env = pure false := by rfl)
    (hf : X.fn x = true ∨ X.env.scope.names.lookup x = some .local := by first | exact .inl rfl | exact .inr rfl | assumption) : DS X W (.Assign [.Name x pos'] e pos) (dSet i t) := (ps_set hN hi hx he hs hf).imp fun _ _ _ h => set_lift h
/-- name = [.. for ..], on one line -/
theorem ds_setLc {i : Nat} {y : Str} {py : Pos} {iter elt : Expr} {ifs : List Expr} {scope : Scope} {own : List (Str × Nat)} {spos : Pos} {ti : DI} {tt : DB} {te : DT} (hc : X.calm = true) (hN : X.N.Nodup) (hy : X.N[i]? = some y) (hyl : X.env.scope.names.lookup y = some .local)
    (hsw : swapsWith (.ListComp elt [⟨tg, iter, ifs, 0⟩] scope pos) (some (.Name y py)) spos.line X.env = pure true) (hi : DIt X W tg iter ti) (ok : BlkOk X.N X.env.scope scope own)
    (hg : ∀ (s : Shared) (H : Hp) (C : Addr) (cl : List (Str × Addr)) (fp : List Addr), DGt (X.blk s H scope (compEnvC scope cl C X.env) fp) js tg g)
    (ht : ∀ (s : Shared) (H : Hp) (C : Addr) (cl : List (Str × Addr)) (fp : List Addr), PTs (X.blk s H scope (compEnvC scope cl C X.env) fp) ifs (liftB X.md W0 tt))
    (he : ∀ (s : Shared) (H : Hp) (C : Addr) (cl : List (Str × Addr)) (fp : List Addr), DE (X.blk s H scope (compEnvC scope cl C X.env) fp) W0 elt te) (hj : ∀ i ∈ js, i ∈ own.map (·.2) := by decide) (hs : ∀ x, foldedSetIterable iter X.env x = pure x := by intro _; rfl) :
    DS X W (.Assign [.Name y py] (.ListComp elt [⟨tg, iter, ifs, 0⟩] scope pos) spos) (dSet i (dLc ti g tt te (own.map (·.2)))) :=
  (ps_setLc hc hN hy hyl hsw hi ok hg ht he hs).imp fun En σ H ⟨R, F0, B, Fz, ρ, De, s, q, x⟩ =>
    lc_lift hj ⟨R, Fz, B, ρ, _, _, s.wd, s.sl, q, fun R v H' B' d e w h q1 => x.nx R _ _ B' Fz H' e ((s.grow e w).set h) q1, x.xl s⟩
/-- a, b = e: a tuple's things to names -/
def dAsg (t : DT) (g : DG) : DSt := fun R De ρ => t R ρ (fun R d => g d ρ fun ρ' => De.nx R ρ') (fun R c fs => De.ex R c fs ρ)
/-- a target of names keeps what is owned apart from its slots -/
def OwnFree (js : List Nat) (g : DG) : Prop := ∀ d ρ Q, g d ρ Q → g d ρ fun ρ' => Q ρ' ∧ ∀ (i : Nat) (x : D), ρ'[i]? = some (some (.own x)) → i ∉ js ∧ ρ[i]? = some (some (.own x))
theorem ds_asg (he : DE X W e t) (hg : DGt X js tg g) (hof : ∀ M B v d, Dp M B v d → ∀ ρ Q, g d ρ Q → g d ρ fun ρ' => Q ρ' ∧ ∀ (i : Nat) (x : D), ρ'[i]? = some (some (.own x)) → i ∉ js ∧ ρ[i]? = some (some (.own x)))
    (hs : swapsWithSole [tg] e pos.line X.env = pure false := by rfl) (hw : swappedStores [tg] e X.env = pure none := by rfl) (h1 : (assignEach [tg] X.env).map (·.2) = [assign tg X.env] := by rfl) : DS X W (.Assign [tg] e pos) (dAsg t g) :=
  (ps_asg he hg hs hw h1).imp fun En σ H ⟨R, F0, B, Fz, ρ, De, s, q, x⟩ =>
    ⟨R, Fz, B, ρ, _, _, s.wd, s.sl, q, fun R v H' B' d e w h q1 => ⟨B', ρ, d, _, w.ex, s.sl.mono e, h, hof _ _ _ _ h ρ _ q1, fun σ' ρ' sb sl ⟨q2, ho⟩ => x.nx R σ' ρ' B' Fz H' e ((s.grow e w).same sb sl ho) q2⟩, x.xl s⟩
theorem ownN {i : Nat} (hj : i ∈ js) {d : D} {ρ : Env} {Q : Env → Prop} (hd : d.isOwn = false) (hall : ∀ k ∈ js, k = i) (h : gdName i d ρ Q) : gdName i d ρ fun ρ' => Q ρ' ∧ ∀ (k : Nat) (x : D), ρ'[k]? = some (some (.own x)) → k ∉ js ∧ ρ[k]? = some (some (.own x)) :=
  ⟨h, fun k x e => by
    obtain ⟨n, e⟩ := set_own (fun y hy => by cases hy; exact hd) e
    exact ⟨fun m => n (hall k m).symm, e⟩⟩
def dIfS (t : DB) (u v : DSt) : DSt := fun R De ρ => t R ρ (fun R b => if b = true then u R De ρ else v R De ρ) (fun R c fs => De.ex R c fs ρ)
theorem ds_if (hc : DTt X W c tA) (ha : DSs X W sts ts) (hb : DSs X W sts2 tu) : DS X W (.If c sts sts2 pos) (dIfS tA ts tu) := (ps_if hc ha hb).imp fun En σ H ⟨R, F0, B, Fz, ρ, De, s, q, x⟩ =>
  ⟨R, Fz, B, ρ, _, _, s.wd, s.sl, q, fun R b H' B' e w q1 => by
    cases b with
    | true => exact ⟨R, F0, B', Fz, ρ, De, s.grow e w, q1, x.mono e⟩
    | false => exact ⟨R, F0, B', Fz, ρ, De, s.grow e w, q1, x.mono e⟩, x.xl s⟩
def dDrop (t : DT) : DSt := fun R De ρ => t R ρ (fun R _ => De.nx R ρ) (fun R c fs => De.ex R c fs ρ)
theorem ds_expr (he : DE X W e t) (hs : swapsWith e none pos.line X.env = pure false := by rfl) : DS X W (.Expr e pos) (dDrop t) := (ps_expr he hs).imp fun En σ H ⟨R, F0, B, Fz, ρ, De, s, q, x⟩ =>
  ⟨R, Fz, B, ρ, _, _, s.wd, s.sl, q, fun R v H' B' d e w h q1 => x.nx R σ ρ B' Fz H' e (s.grow e w) q1, x.xl s⟩
/-- for -/
def forGo (g : DG) (tb : DSt) (De : DEnds) : List D → Res → Env → Prop
  | [], R, ρ => De.nx R ρ
  | d :: r, R, ρ => g d ρ fun ρ2 => tb R { De with nx := forGo g tb De r, ct := forGo g tb De r, bk := De.nx } ρ2
def dFor (ti : DI) (g : DG) (tb : DSt) : DSt := fun R De ρ => ti R ρ (fun R ds => forGo g tb De ds R ρ) (fun R c fs => De.ex R c fs ρ)
theorem ds_for {iter : Expr} {body : List Stmt} {ti : DI} {tb : DSt} (hp : PassesOwn (model X.prog X.w) X.A X.env X.xe) (hc : X.calm = true) (hi : DIt X W tg iter ti) (hg : DGt X js tg g) (hb : DSs X W body tb)
    (hof : ∀ M B v d, Dp M B v d → ∀ ρ Q, g d ρ Q → g d ρ fun ρ' => Q ρ' ∧ ∀ (i : Nat) (x : D), ρ'[i]? = some (some (.own x)) → i ∉ js ∧ ρ[i]? = some (some (.own x))) (hs : ∀ x, foldedSetIterable iter X.env x = pure x := by intro _; rfl) :
    DS X W (.For tg iter body [] pos) (dFor ti g tb) := (ps_for hp hc hi hg hb hs).imp fun En σ H ⟨R, F0, B, Fz, ρ, De, s, q, x⟩ => by
  refine ⟨R, Fz, B, ρ, _, _, s.wd, s.sl, q, fun R1 J H1 B1 ds e1 w1 it q1 => ?_, x.xl s⟩
  refine ⟨fun i m σ' H' => m = ds.length - i ∧ i ≤ ds.length ∧ ∃ R B' Fz' ρ', Ex B1 B' ∧ SR X.md R F0 B' Fz' H' σ' ρ' ∧ forGo g tb De (ds.drop i) R ρ', ⟨ds.length, by omega, Nat.zero_le _, R1, B1, Fz, ρ, Ex.refl _, s.grow e1 w1, q1⟩, ?_⟩
  rintro i m σ' H' ⟨hm, hi, R2, B', Fz', ρ', e2, s2, q2⟩
  by_cases hlt : i < ds.length
  · obtain ⟨d, hd⟩ := get_lt hlt
    have hdr : ds.drop i = d :: ds.drop (i + 1) := by
      rw [List.drop_eq_getElem_cons hlt]
      congr 1
      rw [List.getElem?_eq_getElem hlt] at hd
      exact Option.some.inj hd
    rw [hdr] at q2
    refine .inr ⟨it.go R2 _ B' H' i e2 s2.wd hlt, fun σ3 H3 => ∃ R3 B3 Fz3 ρ3, Ex B1 B3 ∧ SR X.md R3 F0 B3 Fz3 H3 σ3 ρ3 ∧ forGo g tb De (ds.drop (i + 1)) R3 ρ3,
      fun σ3 H3 ⟨R3, B3, Fz3, ρ3, z1, z2, z3⟩ => ⟨ds.length - (i + 1), by omega, rfl, hlt, R3, B3, Fz3, ρ3, z1, z2, z3⟩, fun v H3 hy => ?_⟩
    obtain ⟨d', B3, hd', e3, w3, hv⟩ := it.yld R2 _ B' H' i v H3 e2 s2.wd hlt hy
    rw [hd] at hd'
    cases hd'
    have s3 := s2.grow e3 w3
    refine ⟨B3, ρ', d, _, w3.ex, s3.sl, hv, hof _ _ _ _ hv ρ' _ q2, fun σ4 ρ4 sb sl4 ⟨q4, ho⟩ => ?_⟩
    refine ⟨R2, F0, B3, Fz', ρ4, _, s3.same sb sl4 ho, q4, ⟨fun R5 σ5 ρ5 B5 Fz5 H5 e5 s5 q5 => ⟨R5, B5, Fz5, ρ5, (e2.trans e3).trans e5, s5, q5⟩, fun R5 v d B5 H5 e5 w5 h5 q5 => x.rt R5 v d B5 H5 (((e1.trans e2).trans e3).trans e5) w5 h5 q5,
      fun R5 σ5 ρ5 B5 Fz5 H5 e5 s5 q5 => x.nx R5 σ5 ρ5 B5 Fz5 H5 (((e1.trans e2).trans e3).trans e5) s5 q5, fun R5 σ5 ρ5 B5 Fz5 H5 e5 s5 q5 => ⟨R5, B5, Fz5, ρ5, (e2.trans e3).trans e5, s5, q5⟩,
      fun R5 c C dd H5 B5 Fz5 vs fs σ5 ρ5 mg e5 s5 hd hf q5 => x.ex R5 c C dd H5 B5 Fz5 vs fs σ5 ρ5 mg (((e1.trans e2).trans e3).trans e5) s5 hd hf q5⟩⟩
  · refine .inl ⟨it.stop R2 _ B' H' i e2 s2.wd (by omega), ?_⟩
    have hdr : ds.drop i = [] := List.drop_eq_nil_of_le (by omega)
    rw [hdr] at q2
    exact x.nx R2 σ' ρ' B' Fz' H' (e1.trans e2) s2 q2
end

/-! ### a def by its body -/
theorem spL_len {M : Md} {sp : DSp} {ps : List Str} (h : ∀ R ds Q E, sp R ds Q E → ds.length = ps.length) : ∀ vs H Q E, spL M sp vs H Q E → vs.length = ps.length := fun vs H Q E ⟨R, Fz, B, ds, Qd, Ed, w, hd, hs, _⟩ => by rw [hd.length]; exact h _ _ _ _ hs
theorem startOwn {n : Nat} {M : Md} {B : Hp} {vs : List V} {ds : List D} (h : Dps M B vs ds) {i : Nat} {d : D} (e : (startD n ds)[i]? = some (some (.own d))) : False := by
  unfold startD at e
  rw [List.getElem?_append] at e
  split at e
  · rw [List.getElem?_map] at e
    cases q : ds[i]? with
    | none => rw [q] at e; cases e
    | some x =>
      rw [q] at e
      cases e
      obtain ⟨v, _, h2⟩ := h.get q
      have := h2.notOwn
      cases this
  · rw [List.getElem?_replicate] at e
    split at e <;> cases e
section
variable {P : Program} {w : World} {K : PySem.W.Frag} {mg : Str → Option Value} {base : Heap}
theorem fn_d {x qual : Str} {st : Stmt} {f : Addr} {fd : FuncData} {N ps : List Str} {k : Nat} {sp : DSp} (F : Fun K x qual st f fd) (S : FnScope N ps (defScope st)) (len : ∀ R ds Q E, sp R ds Q E → ds.length = ps.length)
    (hbody : ∀ (cdv : Value) (A : Around) (outer : List PySem.Env) (s : Shared) (H : Hp) (E : XK), Room k (A.deeper (PyProof.Rows.envOfC qual (defScope st) s.heap.objs.size f cdv)) →
      ∃ t : DSt, DSs (cxOf (L2.CX P w) P w K mg base N qual (defScope st) f cdv A outer s H E) (fun cls d _ H => E cls d H) (defBody st) t ∧
        ∀ R ds Q E, sp R ds Q E → t R { nx := fun R _ => Q R .non, rt := Q, ex := fun R c fs _ => E R c fs } (startD N.length ds)) : FnOk P w K mg base (L2.CX P w) (k + 1) f fd ps (spL ⟨K, mg⟩ sp) := by
  refine F.okX S (spL_len len) fun cdv A outer s H vs Q E hr hsp => ?_
  obtain ⟨R, Fz, B, ds, Qd, Ed, wd, hd, hs, k, x⟩ := hsp
  obtain ⟨t, h, q⟩ := hbody cdv A outer s H E hr
  refine ⟨_, h, R, Fz, B, Fz, startD N.length ds, _, ⟨wd, .ofStart hd, Ex.refl _, wd.sys, fun i d e => (startOwn hd e).elim, fun i j d e a e1 => (startOwn hd e1).elim⟩, q R ds Qd Ed hs, ?_⟩
  exact ⟨fun R σ' ρ' B' Fz' H' e s' q' => k R .non H' B' .non e (s'.wd.less s'.f0 s'.s0) .non q', fun R v d B' H' e w' h' q' => k R v H' B' d e w' h' q', fun _ _ _ _ _ _ _ _ q' => q'.elim, fun _ _ _ _ _ _ _ _ q' => q'.elim,
    fun R c C dd H' B' Fz' vs fs σ' ρ' m e s' hd hf q' => x R c C dd H' B' vs fs m e (s'.wd.less s'.f0 s'.s0) hd hf q'⟩
end
end DL

set_option Elab.async false
set_option linter.all false
set_option maxRecDepth 100000
set_option maxHeartbeats 400000
namespace DL
open PySem L2
/-! ### a def of the text that keeps a promise over data -/
def Ok (P : Program) (w : World) (K : PySem.W.Frag) (mg : Str → Option Value) (base : Heap) (k : Nat) (x : Str) (ps : List Str) (sp : DSp) : Prop :=
  ∃ (f : Addr) (fd : FuncData), mg x = some (.ref f) ∧ PySem.W.keepIn K (.ref f) = true ∧ Binds K fd ps [] ∧ FnOk P w K mg base (L2.CX P w) k f fd ps (spL ⟨K, mg⟩ sp)
def DefAt (K : PySem.W.Frag) (mg : Str → Option Value) (x : Str) (st : Stmt) : Prop := ∃ (f : Addr) (fd : FuncData), mg x = some (.ref f) ∧ Fun K x x st f fd
theorem hu_room {A : Around} {k : Nat} (hr : Room k A) : A.units + 100 < cLine := by have := hr.un; omega
section
variable {X : Cx} {W : WX} {e : Expr} {es : List Expr} {tr : DA} {pos : Pos}
theorem de_o {k j : Nat} {ps : List Str} {sp : DSp} {x : Str} {p : Pos} (h : Ok X.prog X.w X.K X.mg X.base j x ps sp) (hr : Room k X.A) (hj : j ≤ k) (hg : Gl X x) (tk : Takes X W) (ha : DAs X W (e :: es) tr)
    (hdb : (x == ("__debug__" : Str)) = false := by decide) (he : starEach (e :: es) X.env = (false, eval e X.env) :: starEach es X.env := by rfl) (hpl : (backTo pos (starEach es X.env)).any (·.1) = false := by rfl) :
    DE X W (.Call (.Name x p) (e :: es) [] pos) (dCall sp tr) :=
  let ⟨_, _, hm, hk, hb, F⟩ := h
  de_call F (hr.mono hj) hg hm hk hb tk ha hdb he hpl
end
section
variable {P : Program} {w : World} {K : PySem.W.Frag} {mg : Str → Option Value} {base : Heap}
theorem ok_of {x : Str} {st : Stmt} {N ps : List Str} {k : Nat} {sp : DSp} (F : DefAt K mg x st) (S : FnScope N ps (defScope st)) (len : ∀ R ds Q E, sp R ds Q E → ds.length = ps.length)
    (bnd : ∀ (kV doc pm : Value) (an : Option Addr) (cdv ct : Value) (us : List Value), us.length = ps.length → bindArgs (PySem.W.fnOf x x (defArgs st) (defBody st) (defScope st) .none kV doc pm an cdv ct) ⟨us, []⟩ = pure (ps.zip us))
    (t : DSt) (vc : ∀ R ds Q E, sp R ds Q E → t R { nx := fun R _ => Q R .non, rt := Q, ex := fun R c fs _ => E R c fs } (startD N.length ds))
    (hbody : ∀ (f : Addr) (cdv : Value) (A : Around) (outer : List PySem.Env) (s : Shared) (H : Hp) (E : XK), Room k (A.deeper (PyProof.Rows.envOfC x (defScope st) s.heap.objs.size f cdv)) →
      DSs (cxOf (L2.CX P w) P w K mg base N x (defScope st) f cdv A outer s H E) (fun cls d _ H => E cls d H) (defBody st) t) : Ok P w K mg base (k + 1) x ps sp := by
  obtain ⟨f, fd, hm, F⟩ := F
  exact ⟨f, fd, hm, F.kp, F.binds bnd, fn_d F S len fun cdv A outer s H E hr => ⟨t, hbody f cdv A outer s H E hr, vc⟩⟩
end
end DL

set_option Elab.async false
set_option linter.all false
set_option maxRecDepth 100000
set_option maxHeartbeats 400000
namespace DL
open PySem L2 PySem.Spec PyProof.Rows
/-! ### defs that are called where no repr is under way -/
structure FnG (P : Program) (w : World) (K : PySem.W.Frag) (mg : Str → Option Value) (base : Heap) (CX : CXT) (k : Nat) (f : Addr) (fd : FuncData) (ps : List Str) (sp : Sp) : Prop where
  len : ∀ vs H Q E, sp vs H Q E → vs.length = ps.length
  go : ∀ (A : Around) (fs : List PySem.Env) (s : Shared) (H : Hp) (ar : Args) (us : List Value) (vs : List V) (Q : VK) (E : XK), Room k A → A.guards = some [] → Env0 P w K mg base A fs s H → BindsTo s fd ar (ps.zip us) → Vals vs us → sp vs H Q E →
    codeAny (model P w) A (.call (.ref f) ar) (CR CX fs P w H s Q E) s
theorem _root_.L2.FnOk.g {P : Program} {w : World} {K : PySem.W.Frag} {mg : Str → Option Value} {base : Heap} {CX : CXT} {k : Nat} {f : Addr} {fd : FuncData} {ps : List Str} {sp : Sp} (F : FnOk P w K mg base CX k f fd ps sp) : FnG P w K mg base CX k f fd ps sp :=
  ⟨F.len, fun A fs s H ar us vs Q E hr _ => F.run A fs s H ar us vs Q E hr⟩
section
variable {P : Program} {w : World} {K : PySem.W.Frag} {mg : Str → Option Value} {base : Heap}
theorem fn_g {CX : CXT} {x qual : Str} {st : Stmt} {f : Addr} {fd : FuncData} {N ps : List Str} {k : Nat} {sp : Sp} (F : Fun K x qual st f fd) (S : FnScope N ps (defScope st)) (len : ∀ vs H Q E, sp vs H Q E → vs.length = ps.length)
    (hb : ∀ (cdv : Value) (A : Around) (fs : List PySem.Env) (s : Shared) (H : Hp) (vs : List V) (Q : VK) (E : XK), Room k (A.deeper (PyProof.Rows.envOfC qual (defScope st) s.heap.objs.size f cdv)) → A.guards = some [] → sp vs H Q E →
      ∃ t, PSs (cxOf CX P w K mg base N qual (defScope st) f cdv A fs s H E) (defBody st) t ∧ t { nx := fun _ H' => Q .non H', rt := Q } (L2.start N vs) H) : FnG P w K mg base CX (k + 1) f fd ps sp := by
  obtain ⟨oc, od, kV, doc, pm, an, cdv, ct, osl, rfl, lk, hcd⟩ := F.ex
  constructor
  · exact len
  intro A fs s H ar us vs Q E hr hgd e0 hbd rv hsp
  have kin := e0.mod.kin.keeps fun b o e => (e0.bs b o e).1
  have nol := e0.mod.nolimit.keeps fun b o e => (e0.bs b o e).1
  refine codeAny_call_function hr.depth (kin _ _ lk) rfl S.co S.gen rfl (PySem.W.codeRec_of kin hcd) (hbd _ _ _ _ (wpAny_newFunctionEnv_cells S.kind ?_ ?_))
  · rintro ⟨n, v⟩ hy
    rcases S.par n (List.of_mem_zip hy).1 with q | q
    · exact Or.inl q
    · exact Or.inr ⟨q, PySem.W.cellsFrom_some _ _ _ (Or.inl q)⟩
  · rintro env rfl s1 y
    refine ⟨nol.keeps y.toInCall.keep, codeAny_func ?_⟩
    obtain ⟨t, ht, hq⟩ := hb cdv A fs s H vs Q E (hr.deeper _) hgd hsp
    have J0 := inv_start (CX := CX) (E := E) S hr.hd e0 (len _ _ _ _ hsp) rv y
    refine wpAny_mono (ht.run [] s1 (L2.start N vs) H _ J0 hq) (fun fl s' hs => ?_) fun _ _ z => z
    match fl, hs with
    | .ret u, ⟨v, _, H', J, r, q⟩ => exact ⟨v, H', J.os, J.bare, J.base, J.hok, r, q⟩
    | .next, ⟨_, H', J, q⟩ => exact ⟨.non, H', J.os, J.bare, J.base, J.hok, rfl, q⟩
    | .brk, ⟨_, _, _, q⟩ => exact q.elim
    | .cont, ⟨_, _, _, q⟩ => exact q.elim
theorem fn_gd {x qual : Str} {st : Stmt} {f : Addr} {fd : FuncData} {N ps : List Str} {k : Nat} {sp : DSp} (F : Fun K x qual st f fd) (S : FnScope N ps (defScope st)) (len : ∀ R ds Q E, sp R ds Q E → ds.length = ps.length)
    (hbody : ∀ (cdv : Value) (A : Around) (outer : List PySem.Env) (s : Shared) (H : Hp) (E : XK), Room k (A.deeper (PyProof.Rows.envOfC qual (defScope st) s.heap.objs.size f cdv)) → A.guards = some [] →
      ∃ t : DSt, DSs (cxOf (L2.CX P w) P w K mg base N qual (defScope st) f cdv A outer s H E) (fun cls d _ H => E cls d H) (defBody st) t ∧
        ∀ R ds Q E, sp R ds Q E → t R { nx := fun R _ => Q R .non, rt := Q, ex := fun R c fs _ => E R c fs } (startD N.length ds)) : FnG P w K mg base (L2.CX P w) (k + 1) f fd ps (spL ⟨K, mg⟩ sp) := by
  refine fn_g F S (spL_len len) fun cdv A outer s H vs Q E hr hgd hsp => ?_
  obtain ⟨R, Fz, B, ds, Qd, Ed, wd, hd, hs, k, x⟩ := hsp
  obtain ⟨t, h, q⟩ := hbody cdv A outer s H E hr hgd
  refine ⟨_, h, R, Fz, B, Fz, startD N.length ds, _, ⟨wd, .ofStart hd, Ex.refl _, wd.sys, fun i d e => (startOwn hd e).elim, fun i j d e a e1 => (startOwn hd e1).elim⟩, q R ds Qd Ed hs, ?_⟩
  exact ⟨fun R σ' ρ' B' Fz' H' e s' q' => k R .non H' B' .non e (s'.wd.less s'.f0 s'.s0) .non q', fun R v d B' H' e w' h' q' => k R v H' B' d e w' h' q', fun _ _ _ _ _ _ _ _ q' => q'.elim, fun _ _ _ _ _ _ _ _ q' => q'.elim,
    fun R c C dd H' B' Fz' vs fs σ' ρ' m e s' hd hf q' => x R c C dd H' B' vs fs m e (s'.wd.less s'.f0 s'.s0) hd hf q'⟩
def OkG (P : Program) (w : World) (K : PySem.W.Frag) (mg : Str → Option Value) (base : Heap) (k : Nat) (x : Str) (ps : List Str) (sp : DSp) : Prop :=
  ∃ (f : Addr) (fd : FuncData), mg x = some (.ref f) ∧ PySem.W.keepIn K (.ref f) = true ∧ Binds K fd ps [] ∧ FnG P w K mg base (L2.CX P w) k f fd ps (spL ⟨K, mg⟩ sp)
theorem Ok.g {k : Nat} {x : Str} {ps : List Str} {sp : DSp} (h : Ok P w K mg base k x ps sp) : OkG P w K mg base k x ps sp := let ⟨f, fd, a, b, c, d⟩ := h; ⟨f, fd, a, b, c, d.g⟩
theorem okg_of {x : Str} {st : Stmt} {N ps : List Str} {k : Nat} {sp : DSp} (F : DefAt K mg x st) (S : FnScope N ps (defScope st)) (len : ∀ R ds Q E, sp R ds Q E → ds.length = ps.length)
    (bnd : ∀ (kV doc pm : Value) (an : Option Addr) (cdv ct : Value) (us : List Value), us.length = ps.length → bindArgs (PySem.W.fnOf x x (defArgs st) (defBody st) (defScope st) .none kV doc pm an cdv ct) ⟨us, []⟩ = pure (ps.zip us))
    (t : DSt) (vc : ∀ R ds Q E, sp R ds Q E → t R { nx := fun R _ => Q R .non, rt := Q, ex := fun R c fs _ => E R c fs } (startD N.length ds))
    (hbody : ∀ (f : Addr) (cdv : Value) (A : Around) (outer : List PySem.Env) (s : Shared) (H : Hp) (E : XK), Room k (A.deeper (PyProof.Rows.envOfC x (defScope st) s.heap.objs.size f cdv)) → A.guards = some [] →
      DSs (cxOf (L2.CX P w) P w K mg base N x (defScope st) f cdv A outer s H E) (fun cls d _ H => E cls d H) (defBody st) t) : OkG P w K mg base (k + 1) x ps sp := by
  obtain ⟨f, fd, hm, F⟩ := F
  exact ⟨f, fd, hm, F.kp, F.binds bnd, fn_gd F S len fun cdv A outer s H E hr hgd => ⟨t, hbody f cdv A outer s H E hr hgd, vc⟩⟩
end
section
variable {X : Cx} {W : WX} {e : Expr} {es : List Expr} {tr : DA} {pos : Pos}
theorem run_g {CX : CXT} {k : Nat} {f : Addr} {fd : FuncData} {ps : List Str} {sp : Sp} {E : L2.St → XK} {pins : List (Addr × Obj)} {σ : L2.St} {H : Hp} {s : Shared} {Q : VK} {us : List Value} {vs : List V} (F : FnG X.prog X.w X.K X.mg X.base CX k f fd ps sp) (hr : Room k X.A)
    (hgd : X.A.guards = some []) (hb : Binds X.K fd ps []) (hx : PassesAt CX X σ (E σ)) (I : Inv X pins σ H s) (r : Vals vs us) (h : sp vs H Q (E σ)) : wpAny (model X.prog X.w) X.A (call (.ref f) us) (EP X pins σ Q) X.xe s := by
  have b := hb s us I.kIn (by rw [List.append_nil, ← r.length]; exact F.len _ _ _ _ h)
  rw [List.append_nil] at b
  refine wpAny_call (codeAny_mono (F.go X.A X.stack s H ⟨us, []⟩ us vs Q (E σ) hr hgd I.env0 b r h) fun z s' hq => ?_)
  match z, hq with
  | .error e, hq => exact hx pins H s e s' I hq
  | .ok (.ret u), hq => exact I.after hq
  | .ok .next, hq => exact hq.elim
  | .ok .brk, hq => exact hq.elim
  | .ok .cont, hq => exact hq.elim
theorem pe_g {CX : CXT} {k : Nat} {f : Addr} {fd : FuncData} {ps : List Str} {sp : Sp} {E : L2.St → XK} {x : Str} {p : Pos} {t : TA} (F : FnG X.prog X.w X.K X.mg X.base CX k f fd ps sp) (hr : Room k X.A) (hgd : X.A.guards = some []) (hg : Gl X x) (hm : X.mg x = some (.ref f))
    (hk : PySem.W.keepIn X.K (.ref f) = true) (hb : Binds X.K fd ps []) (hx : ∀ σ, PassesAt CX X σ (E σ)) (ha : PA X (e :: es) t) (hdb : (x == ("__debug__" : Str)) = false := by decide)
    (he : starEach (e :: es) X.env = (false, eval e X.env) :: starEach es X.env := by rfl) (hpl : (backTo pos (starEach es X.env)).any (·.1) = false := by rfl) : PE X (.Call (.Name x p) (e :: es) [] pos) (tCallS sp E t) :=
  ⟨fun pins s σ H Q I h => wpAny_Call_Name_kw (ld_glob I hg hm (PySem.W.callWith_K (h₀ := X.base) I.ok.mod.kin hk (thn (ha.run pos pins s σ H _ I h) fun us s1 ⟨vs, H1, I1, r, q⟩ => ⟨I1.kIn, run_g F hr hgd hb (hx σ) I1 r q⟩) he hpl) hdb)⟩
theorem de_og {k j : Nat} {ps : List Str} {sp : DSp} {x : Str} {p : Pos} (h : OkG X.prog X.w X.K X.mg X.base j x ps sp) (hr : Room k X.A) (hj : j ≤ k) (hgd : X.A.guards = some []) (hg : Gl X x) (tk : Takes X W) (ha : DAs X W (e :: es) tr)
    (hdb : (x == ("__debug__" : Str)) = false := by decide) (he : starEach (e :: es) X.env = (false, eval e X.env) :: starEach es X.env := by rfl) (hpl : (backTo pos (starEach es X.env)).any (·.1) = false := by rfl) :
    DE X W (.Call (.Name x p) (e :: es) [] pos) (dCall sp tr) :=
  let ⟨_, _, hm, hk, hb, F⟩ := h
  (pe_g F (hr.mono hj) hgd hg hm hk hb (fun σ => passAt tk σ) ha hdb he hpl).imp fun σ H Q ⟨R, Fz, B, ρ, Qd, E, w, sl, q, k, x⟩ =>
    ⟨R, Fz, B, ρ, _, E, w, sl, q, fun R vs H1 B1 ds e1 w1 h1 q1 => ⟨R, Fz, B1, ds, Qd, E, w1, h1, q1, k.mono e1, fun R c C dd H' B' us fs m e2 w2 hd hf he => x R c C dd H' B' us fs m (e1.trans e2) w2 hd hf he⟩, x⟩
end
end DL

set_option Elab.async false
set_option linter.all false
set_option maxRecDepth 100000
set_option maxHeartbeats 400000
namespace DL
open PySem L2 PySem.Spec PyProof.Rows
/-! ### repr -/
mutual
def D.rp : D → Bool
  | .non => true | .bl _ => true | .int i => decide (i.natAbs.log2 < 1920) | .str _ => true
  | .tup ds => D.rps ds | .lst ds => D.rps ds | .dct kvs => kvs.isEmpty
  | .frl _ => false | .tpw _ => false | .obj _ _ => false | .exc _ _ => false | .cls _ => false | .ref _ => false | .ty _ => false | .own _ => false
def D.rps : List D → Bool
  | [] => true | d :: r => d.rp && D.rps r
end
mutual
theorem rp_show : ∀ d : D, d.rp = true → d.py.showable = true
  | .non, _ => rfl
  | .bl _, _ => rfl
  | .int _, h => h
  | .str _, _ => rfl
  | .tup ds, h => rps_show ds h
  | .lst ds, h => rps_show ds h
  | .dct kvs, h => by
    cases kvs with
    | nil => rfl
    | cons _ _ => cases h
  | .frl _, h => nomatch h
  | .tpw _, h => nomatch h
  | .obj _ _, h => nomatch h
  | .exc _ _, h => nomatch h
  | .cls _, h => nomatch h
  | .ref _, h => nomatch h
  | .ty _, h => nomatch h
  | .own _, h => nomatch h
theorem rps_show : ∀ ds : List D, D.rps ds = true → PyData.showableAll (D.pys ds) = true
  | [], _ => rfl
  | d :: r, h => by
    have q := Bool.and_eq_true_iff.mp h
    exact Bool.and_eq_true_iff.mpr ⟨rp_show d q.1, rps_show r q.2⟩
end
section
variable {X : Cx} {pins : List (Addr × Obj)} {σ : L2.St} {R : Res} {H B Fz : Hp} {s : Shared}
mutual
theorem reads_d (I : Inv X pins σ H s) (w : Wd R B Fz H) : ∀ (d : D) (v : V) (u : Value), Dp X.md B v d → d.rp = true → RelV v u → ∃ as, Reads s.heap u d.py as ∧ sysModules ∉ as
  | .non, _, _, h, _, r => by cases h; cases r; exact ⟨_, .none, by simp⟩
  | .bl b, _, _, h, _, r => by cases h; cases r; exact ⟨_, .bool b, by simp⟩
  | .int i, _, _, h, _, r => by cases h; obtain ⟨t, rfl⟩ := r; exact ⟨_, .int i t, by simp⟩
  | .str x, _, _, h, _, r => by cases h; obtain ⟨t, rfl⟩ := r; exact ⟨_, .str x t, by simp⟩
  | .tup ds, _, _, h, p, r => by
    cases h with
    | tup hs ha =>
      cases r
      obtain ⟨its, rv, ⟨o, ho, hc, n, hd⟩, _⟩ := I.tuple (w.ex.st hs.st)
      obtain ⟨as, hr, hn⟩ := reads_ds I w ds _ its ha p rv
      exact ⟨_, Reads.tuple ho hc hd hr, hn⟩
  | .lst ds, _, _, h, p, r => by
    cases h with
    | @lst a _ _ hs ha =>
      cases r
      obtain ⟨its, rv, ⟨o, n, ho, hc, _, hd⟩, _⟩ := I.list (SqL.of (w.ex _ _ hs))
      obtain ⟨as, hr, hn⟩ := reads_ds I w ds _ its ha p rv
      refine ⟨_, Reads.list ho hc hd hr, ?_⟩
      rw [List.mem_cons]
      rintro (e | e)
      · obtain ⟨_, z⟩ := w.sys; rw [← e, w.dis _ _ z] at hs; cases hs
      · exact hn e
  | .dct kvs, _, _, h, p, r => by
    cases kvs with
    | cons _ _ => cases p
    | nil =>
      cases h with
      | @dct a ks _ hs ha =>
        cases ha
        cases r
        obtain ⟨_, hsm, vs, hv, o, es, ep, ho, ⟨hc, _⟩, hd, _, hp, _⟩ := I.hok _ _ (w.ex _ _ hs)
        cases hv
        have he : es.toList = [] := by cases q : es.toList with
          | nil => rfl
          | cons _ _ => rw [q] at hp; cases hp
        refine ⟨_, Reads.dict (kvs := []) (as := []) (bs := []) ho hc hd (by rw [he]; exact .nil) (by rw [he]; exact .nil), ?_⟩
        intro m
        have e : sysModules = a := by simpa using m
        rw [← e] at hsm
        simp at hsm
  | .frl _, _, _, _, p, _ => nomatch p
  | .tpw _, _, _, _, p, _ => nomatch p
  | .obj _ _, _, _, _, p, _ => nomatch p
  | .exc _ _, _, _, _, p, _ => nomatch p
  | .cls _, _, _, _, p, _ => nomatch p
  | .ref _, _, _, _, p, _ => nomatch p
  | .ty _, _, _, _, p, _ => nomatch p
  | .own _, _, _, _, p, _ => nomatch p
theorem reads_ds (I : Inv X pins σ H s) (w : Wd R B Fz H) : ∀ (ds : List D) (vs : List V) (us : List Value), Dps X.md B vs ds → D.rps ds = true → Vals vs us → ∃ as, ReadsAll s.heap us (D.pys ds) as ∧ sysModules ∉ as
  | [], _, _, h, _, r => by cases h; cases r; exact ⟨_, .nil, by simp⟩
  | d :: ds, _, _, h, p, r => by
    cases h with
    | cons h1 h2 =>
      cases r with
      | cons r1 r2 =>
        have q := Bool.and_eq_true_iff.mp p
        obtain ⟨as, q1, n1⟩ := reads_d I w d _ _ h1 q.1 r1
        obtain ⟨bs, q2, n2⟩ := reads_ds I w ds _ _ h2 q.2 r2
        exact ⟨_, ReadsAll.cons q1 q2, by rw [List.mem_append]; exact fun z => z.elim n1 n2⟩
end
end
def fRepr : FC
  | [d], Q => d.rp = true ∧ d.py.depth ≤ 64 ∧ d.py.shown.length ≤ sizeLine ∧ Q (.str d.py.shown)
  | _, _ => False
section
variable {X : Cx} {W : WX} {a b c e e2 tg : Expr} {es rest : List Expr} {ta tb tc t : DT} {tA tB' : DB} {tr : DA} {pos : Pos} {js : List Nat} {g : DG} {gl : DGl}
theorem call_reprD (hgd : X.A.guards = some []) (hu : X.A.units + 100 < cLine) : CallR X (.builtin "repr") (rcOf X.md fRepr) := by
  rintro pins s σ H xs us Q I r ⟨R, Fz, B, ds, Qd, w, h, hf, k⟩
  unfold fRepr at hf
  split at hf
  · rename_i d
    obtain ⟨hp, hd, hz, hf⟩ := hf
    cases h with
    | cons h t => cases t; cases r with
      | cons r rt => cases rt
                     have hfin : ∀ (h' : Heap) (tk : Nat), (∀ b o, s.heap.get? b = some o → h'.get? b = some o) → ∀ t, EP X pins σ Q (.str d.py.shown t) { s with heap := h', toks := tk } :=
                       fun h' tk kp t => ⟨.str _, H, I.kept kp, ⟨t, rfl⟩, k _ H B _ (Ex.refl B) w (.str _) hf⟩
                     obtain ⟨as, rd, hn⟩ := reads_d I w d _ _ h hp r
                     cases h with
                     | non => cases r; exact PySem.P.repr_of_none (hfin s.heap _ (fun _ _ e => e) _)
                     | bl b => cases r; exact PySem.P.repr_of_bool (by have := hfin s.heap (s.toks + 1) (fun _ _ e => e) s.toks; cases b <;> exact this)
                     | int i => obtain ⟨t, rfl⟩ := r; exact PySem.P.repr_of_int (of_decide_eq_true hp) (hfin s.heap _ (fun _ _ e => e) _)
                     | str x => obtain ⟨t, rfl⟩ := r; exact PySem.P.repr_of_str (hfin s.heap _ (fun _ _ e => e) _) hz
                     | tup | lst | dct => cases r; exact repr_of_reads' rd (rp_show _ hp) (fun _ => hn) hgd (by omega) (fun _ _ e => e) (fun h' u tk kp => hfin h' tk kp u) hz
                     | ty | ref | frl | tpw | obj | exc | cls => cases hp
  · exact hf.elim
theorem de_repr {p : Pos} (hgd : X.A.guards = some []) (hu : X.A.units + 100 < cLine) (hg : Gl X "repr") (hm : X.mg "repr" = none) (ha : DAs X W [e] tr) (he : starEach [e] X.env = (false, eval e X.env) :: starEach [] X.env := by rfl) : DE X W (.Call (.Name "repr" p) [e] [] pos) (dCB fRepr tr) :=
  de_callB (call_reprD hgd hu) rcOf_ok hg hm (by decide +kernel) ha (he := he)

/-! ### sorted -/
theorem each_of {α β : Type} {R : α → β → Prop} {M : Md} {B : Hp} : ∀ {vs : List V} {ds : List D} {us : List Value} {P : Value → D → Prop}, Dps M B vs ds → Vals vs us → (∀ v d u, Dp M B v d → RelV v u → d ∈ ds → P u d) → PySem.W.EachIs P us ds
  | _, _, _, _, .nil, .nil, _ => .nil
  | _, _, _, _, .cons h t, .cons r rs, f => .cons (f _ _ _ h r (List.mem_cons_self ..)) (each_of (R := R) t rs fun v d u h r m => f v d u h r (List.mem_cons_of_mem _ m))
theorem of_each {M : Md} {B : Hp} : ∀ {us : List Value} {ds : List D}, PySem.W.EachIs (fun u d => ∃ v, RelV v u ∧ Dp M B v d) us ds → ∃ vs, Vals vs us ∧ Dps M B vs ds
  | _, _, .nil => ⟨[], .nil, .nil⟩
  | _, _, .cons ⟨v, r, h⟩ t => let ⟨vs, r2, h2⟩ := of_each t; ⟨v :: vs, .cons r r2, .cons h h2⟩
def sortD (ds : List D) : List D := ds.mergeSort (PySem.W.dataLe false D.py)
def fSorted : FC
  | [.lst ds], Q => (∀ d ∈ ds, d.pure = true ∧ d.py.depth ≤ 64) ∧ PySem.W.AllAlike (ds.map D.py) ∧ PySem.W.Sortable (ds.map D.py) ∧ Q (.lst (sortD ds))
  | _, _ => False
theorem call_sortedD (hu : X.A.units + 100 < cLine) : CallR X (.builtin "sorted") (rcOf X.md fSorted) := by
  rintro pins s σ H xs us Q I r ⟨R, Fz, B, ds, Qd, w, h, hf, k⟩
  unfold fSorted at hf
  split at hf
  · rename_i ds
    obtain ⟨hp, hal, hk, hf⟩ := hf
    cases h with
    | cons h t => cases t; cases r with
      | cons r rt => cases rt; cases h with
        | lst hs ha =>
          cases r
          obtain ⟨its, rv, ⟨o, n, ho, hc, _, hd⟩, hz⟩ := I.list (SqL.of (w.ex _ _ hs))
          refine PySem.W.sorted_data (R := fun u d => ∃ v, RelV v u ∧ Dp X.md B v d) (bs := ds) (enc := D.py) (vs := its) ⟨o, ho, hc, n, hd⟩ (each_of (R := fun (_ : Unit) (_ : Unit) => True) ha rv fun v d u h1 h2 _ => ⟨v, h2, h1⟩)
            (each_of (R := fun (_ : Unit) (_ : Unit) => True) ha rv fun v d u h1 h2 m => L2.Dp.reads I d.py v u (dp2_mono w.ex (h1.py (hp d m).1)) h2) hal hk (by rw [← ha.length]; exact hz)
            (fun d m => by have := (hp d m).2; omega) fun out hl he => ?_
          obtain ⟨vs', r', h'⟩ := of_each he
          obtain ⟨c, hc'⟩ := sortedAll_at s.heap its out.toArray
          have hf' : H (s.heap.objs.size + 1) = none := I.hok.fresh (Nat.le_succ _)
          refine ⟨.ref (s.heap.objs.size + 1), upd H (s.heap.objs.size + 1) (.lst vs'), I.laid (t' := s.toks) (fun _ _ => sortedAll_old) (Nat.le_succ _) ⟨?_, out, c, r', hc'⟩, rfl, k _ _ _ _ (Ex.new (w.free hf')) (w.new hf') (.lst upd_same (h'.mono (Ex.new (w.free hf')))) hf⟩
          rw [r'.length, hl, ← ha.length]; exact hz
  · exact hf.elim
theorem de_sorted {p : Pos} (hu : X.A.units + 100 < cLine) (hg : Gl X "sorted") (hm : X.mg "sorted" = none) (ha : DAs X W [e] tr) (he : starEach [e] X.env = (false, eval e X.env) :: starEach [] X.env := by rfl) : DE X W (.Call (.Name "sorted" p) [e] [] pos) (dCB fSorted tr) :=
  de_callB (call_sortedD hu) rcOf_ok hg hm (by decide +kernel) ha (he := he)

/-! ### x < y of tuples, lists -/
def fLtD : F2
  | .int i, .int j, Q => Q (.bl (decide (i < j)))
  | .str x, .str y, Q => Q (.bl (decide (x.cps.toList < y.cps.toList)))
  | .tup x, .tup y, Q => D.pure (.tup x) = true ∧ D.pure (.tup y) = true ∧ PySem.W.alike (D.py (.tup x)) (D.py (.tup y)) = true ∧ (D.py (.tup x)).depth ≤ 64 ∧ Q (.bl (PySem.W.dataLt (D.py (.tup x)) (D.py (.tup y))))
  | _, _, _ => False
theorem opLtD (hu : X.A.units + 100 < cLine) : OpR X (compareOp .Lt) (rOf X.md fLtD) := by
  rintro pins s σ H x y v u Q I rx ry ⟨R, Fz, B, dx, dy, Qd, w, hx, hy, h, k⟩
  unfold fLtD at h
  split at h
  · cases hx; cases hy
    exact op_lt pins s σ H _ _ v u Q I rx ry ⟨_, _, rfl, rfl, k _ H B _ (Ex.refl B) w (.bl _) h⟩
  · cases hx; cases hy
    exact op_lt_str pins s σ H _ _ v u Q I rx ry ⟨_, _, rfl, rfl, k _ H B _ (Ex.refl B) w (.bl _) h⟩
  · obtain ⟨p1, p2, al, hd, h⟩ := h
    obtain ⟨as, r1⟩ := L2.Dp.reads I _ x v (dp2_mono w.ex (hx.py p1)) rx
    obtain ⟨bs, r2⟩ := L2.Dp.reads I _ y u (dp2_mono w.ex (hy.py p2)) ry
    refine PySem.W.rcLt_alike _ _ X.A s v u as bs r1 r2 al (fun z => by cases z) ?_ _ _ _ _ ⟨_, H, I, rel_bl, k _ H B _ (Ex.refl B) w (.bl _) h⟩
    have := Nat.min_le_left (D.py (.tup ‹_›)).depth (D.py (.tup ‹_›)).depth
    omega
  · exact h.elim
end
end DL

set_option Elab.async false
set_option linter.all false
set_option maxRecDepth 100000
set_option maxHeartbeats 400000
namespace DL
open PySem L2 PySem.Spec PyProof.Rows
/-! ### the state of the draws -/
def drawAt (a : Addr) (n : Int) (fr : Addr → Prop) (H : Hp) : Prop := ∃ (c l : Addr) (cs ls : List Int) (k : Int), fr a ∧ fr c ∧ fr l ∧ a ≠ l ∧ c ≠ l ∧ c ≠ a ∧
  H a = some (.dK [(Sum.inr "cells", .ref c), (Sum.inr "left", .ref l), (Sum.inr "at", .int k)]) ∧ 0 ≤ k ∧ k ≤ n ∧ H c = some (.lst (cs.map V.int)) ∧ cs.length ≤ 63 ∧ H l = some (.lst (ls.map V.int)) ∧ (∀ x ∈ ls, 0 ≤ x) ∧ ls.length ≤ 63
theorem drawAt.upd {a : Addr} {n : Int} {fr fr' : Addr → Prop} {H : Hp} {p : Addr} {o : HO} (h : drawAt a n fr H) (hf : ∀ q, fr q → H q ≠ none → fr' q ∧ q ≠ p) : drawAt a n fr' (L2.upd H p o) := by
  obtain ⟨c, l, cs, ls, k, f1, f2, f3, n1, n2, n3, h1, k0, k1, h2, l1, h3, h4, l2⟩ := h
  have g1 := hf a f1 (by rw [h1]; simp)
  have g2 := hf c f2 (by rw [h2]; simp)
  have g3 := hf l f3 (by rw [h3]; simp)
  exact ⟨c, l, cs, ls, k, g1.1, g2.1, g3.1, n1, n2, n3, by rw [upd_ne g1.2]; exact h1, k0, k1, by rw [upd_ne g2.2]; exact h2, l1, by rw [upd_ne g3.2]; exact h3, h4, l2⟩
def drawR (a : Addr) (n : Int) : Res where
  ok := drawAt a n
  alloc := fun fr H p o h hp => h.upd fun q f hq => ⟨⟨f, fun e => hq (by rw [e]; exact hp)⟩, fun e => hq (by rw [e]; exact hp)⟩
  frame := fun fr H p o h hp => h.upd fun q f hq => ⟨f, fun e => by
    subst e
    rcases hp with hp | hp
    · exact hp f
    · exact hq hp⟩
  more := fun fr fr' H h hm => by
    obtain ⟨c, l, cs, ls, k, f1, f2, f3, r⟩ := h
    exact ⟨c, l, cs, ls, k, hm _ f1, hm _ f2, hm _ f3, r⟩
/-- the resource alone changes -/
theorem Wd.res' {R R' : Res} {B Fz H H' : Hp} (w : Wd R B Fz H) (he : ∀ a o, (B a ≠ none ∨ Fz a ≠ none) → H a = some o → H' a = some o) (hr : R'.ok (fun a => B a = none ∧ Fz a = none) H') : Wd R' B Fz H' where
  ex := fun a o e => he a o (.inl (by rw [e]; simp)) (w.ex a o e)
  fz := fun a o e => he a o (.inr (by rw [e]; simp)) (w.fz a o e)
  sys := w.sys
  dis := w.dis
  res := hr
/-- _law_next(m, many): any number from 0 to many - 1 -/
def spNext : DSp := fun R ds Q _ => ∃ (a : Addr) (n k : Int), R = drawR a n ∧ ds = [.ref a, .int k] ∧ 1 ≤ k ∧ k < 1000000 ∧ n < 10 ^ 15 ∧ ∀ r : Int, 0 ≤ r → r < k → Q (drawR a (n + 1)) (.int r)
/-- _law_begun(script) -/
def spBegun : DSp := fun R ds Q _ => ∃ (ns : List Int), R = emp ∧ ds = [.frl (ns.map D.int)] ∧ ns.length ≤ 63 ∧ ∀ a, Q (drawR a 0) (.ref a)

/-! ### what _law_next does -/
abbrev drawK (c l : Addr) (k : Int) : List (Key × V) := [(Sum.inr "cells", .ref c), (Sum.inr "left", .ref l), (Sum.inr "at", .int k)]
theorem sne1 : ¬ (("cells" : Str) = "left") := by decide +kernel
theorem sne2 : ¬ (("cells" : Str) = "at") := by decide +kernel
theorem sne3 : ¬ (("left" : Str) = "at") := by decide +kernel
theorem sne4 : ¬ (("at" : Str) = "left") := by decide +kernel
theorem ne1 : ¬ ((Sum.inr ("cells" : Str) : Key) = Sum.inr ("left" : Str)) := fun h => sne1 (Sum.inr.inj h)
theorem ne2 : ¬ ((Sum.inr ("cells" : Str) : Key) = Sum.inr ("at" : Str)) := fun h => sne2 (Sum.inr.inj h)
theorem ne3 : ¬ ((Sum.inr ("left" : Str) : Key) = Sum.inr ("at" : Str)) := fun h => sne3 (Sum.inr.inj h)
theorem dk_left {c l : Addr} {k : Int} : valV (drawK c l k) (Sum.inr "left") = some (.ref l) := by rw [valV_neg (by exact ne1), valV_pos rfl]
theorem dk_cells {c l : Addr} {k : Int} : valV (drawK c l k) (Sum.inr "cells") = some (.ref c) := by rw [valV_pos rfl]
theorem dk_at {c l : Addr} {k : Int} : valV (drawK c l k) (Sum.inr "at") = some (.int k) := by rw [valV_neg (by exact ne2), valV_neg (by exact ne3), valV_pos rfl]
theorem dk_putl {c l l' : Addr} {k : Int} : putK (drawK c l k) (Sum.inr "left") (.ref l') = drawK c l' k := by
  unfold putK
  rw [if_pos (by simp)]
  simp [sne1, sne4]
theorem dk_puta {c l : Addr} {k k' : Int} : putK (drawK c l k) (Sum.inr "at") (.int k') = drawK c l k' := by
  unfold putK
  rw [if_pos (by simp)]
  simp [sne2, sne3]
structure DrawX (a : Addr) (B Fz H : Hp) (c l : Addr) (cs ls : List Int) (k : Int) : Prop where
  ex : Ex B H
  fz : Ex Fz H
  fa : B a = none ∧ Fz a = none
  fc : B c = none ∧ Fz c = none
  fl : B l = none ∧ Fz l = none
  al : a ≠ l
  cl : c ≠ l
  ca : c ≠ a
  ha : H a = some (.dK (drawK c l k))
  hc : H c = some (.lst (cs.map V.int))
  hl : H l = some (.lst (ls.map V.int))
  lc : cs.length ≤ 63
  nn : ∀ x ∈ ls, 0 ≤ x
  ll : ls.length ≤ 63
section
variable {a c l : Addr} {B Fz H : Hp} {cs ls : List Int} {k : Int}
theorem DrawX.junk {p : Addr} {o : HO} (d : DrawX a B Fz H c l cs ls k) (h : H p = none) : DrawX a B Fz (L2.upd H p o) c l cs ls k :=
  { d with
    ex := fun b u e => by rw [upd_ne (ne_of_none (d.ex b u e) h)]; exact d.ex b u e
    fz := fun b u e => by rw [upd_ne (ne_of_none (d.fz b u e) h)]; exact d.fz b u e
    ha := by rw [upd_ne (ne_of_none d.ha h)]; exact d.ha
    hc := by rw [upd_ne (ne_of_none d.hc h)]; exact d.hc
    hl := by rw [upd_ne (ne_of_none d.hl h)]; exact d.hl }
theorem ne_free {B : Hp} {a b : Addr} {u : HO} (h : B a = none) (e : B b = some u) : b ≠ a := fun z => by rw [z, h] at e; cases e
theorem DrawX.drop {p : Addr} {ms : List Int} (d : DrawX a B Fz H c l cs ls k) (h : H p = none) (nn : ∀ x ∈ ms, 0 ≤ x) (ll : ms.length ≤ 63) : DrawX a B Fz (L2.upd (L2.upd H p (.lst (ms.map V.int))) a (.dK (drawK c p k))) c p cs ms k :=
  { d with
    ex := fun b u e => by rw [upd_ne (ne_free d.fa.1 e), upd_ne (ne_of_none (d.ex b u e) h)]; exact d.ex b u e
    fz := fun b u e => by rw [upd_ne (ne_free d.fa.2 e), upd_ne (ne_of_none (d.fz b u e) h)]; exact d.fz b u e
    fl := ⟨d.ex.free h, d.fz.free h⟩
    al := ne_of_none d.ha h
    cl := ne_of_none d.hc h
    ha := upd_same
    hc := by rw [upd_ne d.ca, upd_ne (ne_of_none d.hc h)]; exact d.hc
    hl := by rw [upd_ne (ne_of_none d.ha h).symm]; exact upd_same
    nn := nn
    ll := ll }
theorem DrawX.store {ms : List Int} (d : DrawX a B Fz H c l cs ls k) (nn : ∀ x ∈ ms, 0 ≤ x) (ll : ms.length ≤ 63) : DrawX a B Fz (L2.upd H l (.lst (ms.map V.int))) c l cs ms k :=
  { d with
    ex := fun b u e => by rw [upd_ne (ne_free d.fl.1 e)]; exact d.ex b u e
    fz := fun b u e => by rw [upd_ne (ne_free d.fl.2 e)]; exact d.fz b u e
    ha := by rw [upd_ne d.al]; exact d.ha
    hc := by rw [upd_ne d.cl]; exact d.hc
    hl := upd_same
    nn := nn
    ll := ll }
theorem DrawX.tick {k' : Int} (d : DrawX a B Fz H c l cs ls k) : DrawX a B Fz (L2.upd H a (.dK (drawK c l k'))) c l cs ls k' :=
  { d with
    ex := fun b u e => by rw [upd_ne (ne_free d.fa.1 e)]; exact d.ex b u e
    fz := fun b u e => by rw [upd_ne (ne_free d.fa.2 e)]; exact d.fz b u e
    ha := upd_same
    hc := by rw [upd_ne d.ca]; exact d.hc
    hl := by rw [upd_ne d.al.symm]; exact d.hl }
theorem Wd.draw {n : Int} (w : Wd (drawR a n) B Fz H) : ∃ c l cs ls k, DrawX a B Fz H c l cs ls k ∧ 0 ≤ k ∧ k ≤ n := by
  obtain ⟨c, l, cs, ls, k, f1, f2, f3, n1, n2, n3, h1, k0, k1, h2, l1, h3, h4, l2⟩ := w.res
  exact ⟨c, l, cs, ls, k, ⟨w.ex, w.fz, f1, f2, f3, n1, n2, n3, h1, h2, h3, l1, h4, l2⟩, k0, k1⟩
theorem DrawX.wd {n : Int} (d : DrawX a B Fz H c l cs ls k) (sys : ∃ o, Fz sysModules = some (sysO o)) (dis : ∀ a o, Fz a = some o → B a = none) (k0 : 0 ≤ k) (k1 : k ≤ n) : Wd (drawR a n) B Fz H :=
  ⟨d.ex, d.fz, sys, dis, c, l, cs, ls, k, d.fa, d.fc, d.fl, d.al, d.cl, d.ca, d.ha, k0, k1, d.hc, d.lc, d.hl, d.nn, d.ll⟩
theorem dpAll_ints {K : PySem.W.Frag} : ∀ (ms : List Int), L2.DpAll K H (ms.map V.int) (ms.map PyData.int)
  | [] => .nil
  | x :: r => .cons (.int x) (dpAll_ints r)
theorem dp_ints {K : PySem.W.Frag} {p : Addr} {ms : List Int} (h : H p = some (.lst (ms.map V.int))) : L2.Dp K H (.ref p) (.list (ms.map PyData.int)) := .lst (SqL.of h) (dpAll_ints ms)
theorem depthAll_ints : ∀ (ms : List Int), PyData.depthAll (ms.map PyData.int) = 0
  | [] => rfl
  | x :: r => by show max 0 (PyData.depthAll (r.map PyData.int)) = 0; rw [depthAll_ints r]; rfl
theorem lay_ints : ∀ (ms : List Int), PyData.canLayAll0 (ms.map PyData.int) = true
  | [] => rfl
  | x :: r => by show (true && PyData.canLayAll0 (r.map PyData.int)) = true; rw [lay_ints r]; rfl
theorem shaped_ints (ms : List Int) : SeqAt.shaped (.list (ms.map PyData.int)) = true := by
  unfold SeqAt.shaped
  show (PyData.canLayAll0 (ms.map PyData.int) && decide (PyData.depthAll (ms.map PyData.int) + 1 ≤ 64)) = true
  rw [lay_ints, depthAll_ints]; rfl
theorem eqv_nil (ms : List Int) : PyData.eqv (.list (ms.map PyData.int)) (.list []) = ms.isEmpty := by cases ms <;> rfl
theorem atI0 {α : Type} (x : α) (r : List α) : atI (x :: r) 0 = some x := by
  unfold atI ixN
  rw [if_pos (by omega), if_pos (by simp)]
  rfl
/-- xs != [] -/
theorem ne_nil {K : PySem.W.Frag} {σ : L2.St} {te : TE} {Q : Bool → Hp → Prop} {p : Addr} {ms : List Int} (ht : ∀ Q' : VK, Q' (.ref p) H → te σ H Q') (hp : H p = some (.lst (ms.map V.int))) (hq : ∀ x, H x = none → Q (!ms.isEmpty) (L2.upd H x (.lst []))) :
    tTest (tOp (rNeD K) te (tLst tNil)) σ H Q := by
  refine ht _ ⟨Nat.zero_le _, fun x hx => ?_⟩
  refine ⟨_, _, dp_ints (ms := ms) (by rw [upd_ne (ne_of_none hp hx)]; exact hp), dp_ints (ms := []) upd_same, shaped_ints _, shaped_ints [], _, rfl, ?_⟩
  show Q (!PyData.eqv (.list (ms.map PyData.int)) (.list [])) _
  rw [eqv_nil]
  exact hq x hx
abbrev tKey (x : Str) : TE := tDGet (tVar 0) (tC (.str x))
theorem left_v {σ : L2.St} (h0 : σ[0]? = some (some (.ref a))) (d : DrawX a B Fz H c l cs ls k) (Q : VK) (q : Q (.ref l) H) : tKey "left" σ H Q := ⟨_, h0, a, _, rfl, .inl ⟨_, Sum.inr "left", .inl d.ha, rfl, dk_left.symm⟩, q⟩
theorem cells_v {σ : L2.St} (h0 : σ[0]? = some (some (.ref a))) (d : DrawX a B Fz H c l cs ls k) (Q : VK) (q : Q (.ref c) H) : tKey "cells" σ H Q := ⟨_, h0, a, _, rfl, .inl ⟨_, Sum.inr "cells", .inl d.ha, rfl, dk_cells.symm⟩, q⟩
theorem at_v {σ : L2.St} (h0 : σ[0]? = some (some (.ref a))) (d : DrawX a B Fz H c l cs ls k) (Q : VK) (q : Q (.int k) H) : tKey "at" σ H Q := ⟨_, h0, a, _, rfl, .inl ⟨_, Sum.inr "at", .inl d.ha, rfl, dk_at.symm⟩, q⟩
abbrev rInt1 : List V → Hp → VK → Prop := fun xs H Q => (∃ i, xs = [V.int i] ∧ Q (V.int i) H) ∨ ∃ k, xs = [V.bl k] ∧ Q (V.int (if k = true then 1 else 0)) H
abbrev rLenSq (K : PySem.W.Frag) : List V → Hp → VK → Prop := fun xs H Q => ∃ p ys, xs = [.ref p] ∧ (SqL K H p ys ∨ SqT K H p ys) ∧ Q (.int ys.length) H
abbrev oAdd : R2 := rI0 fun i j => .int (i + j)
abbrev oMul : R2 := rI CMul fun i j => .int (i * j)
abbrev oDiv : R2 := rI CDiv fun i j => .int (i / j)
abbrev oMod : R2 := rI (fun _ j => 0 < j) fun i j => .int (i % j)
abbrev tInt (t : TE) : TE := tCB rInt1 (tCons t tNil)
def tNextA (K : PySem.W.Frag) : TS := tWhile (tAnd (tTest (tOp (rNeD K) (tKey "left") (tLst tNil))) (tTest (tOp rEq (tOp (rIxL K) (tKey "left") (tC (.int 0))) (tC (.int 0))))) (sDPut (tVar 0) (tC (.str "left")) (tSl (rSlL K) (tKey "left") (tPart (tC (.int 1))) tNoPart))
def tNextB (K : PySem.W.Frag) : TS := tSeq (tAsg (tOp (rIxL K) (tKey "left") (tC (.int 0))) (gName 2)) (tSeq (tAsg (tOp oDiv (tVar 2) (tVar 1)) (gSub (tKey "left") (tC (.int 0)) rSetL)) (tRet (tOp oMod (tInt (tVar 2)) (tVar 1))))
def tNextC (K : PySem.W.Frag) : TS := tSeq (tPar 3 4 (tCons (tOp oAdd (tKey "at") (tC (.int 1))) (tCons (tKey "cells") tNil))) (tSeq (sDPut (tVar 0) (tC (.str "at")) (tVar 3))
  (tSeq (tAsg (tIf (tTest (tOp (rNeD K) (tVar 4) (tLst tNil))) (tInt (tOp (rIxL K) (tVar 4) (tOp oMod (tInt (tOp oAdd (tOp oMul (tVar 3) (tVar 3)) (tOp oDiv (tVar 3) (tC (.int 2))))) (tCB (rLenSq K) (tCons (tVar 4) tNil))))) (tC (.int 5))) (gName 5))
  (tSeq (tAsg (tOp oMod (tInt (tOp oAdd (tOp oAdd (tOp oMul (tVar 5) (tC (.int 40692))) (tOp oMul (tVar 3) (tC (.int 65539)))) (tOp oMul (tOp oMul (tC (.int 7001)) (tVar 3)) (tVar 3)))) (tC (.int 2147483399))) (gName 6))
  (tRet (tOp oMod (tInt (tOp oDiv (tOp oMod (tInt (tOp oAdd (tOp oMul (tVar 6) (tC (.int 48271))) (tOp oMul (tC (.int 1013)) (tVar 3)))) (tC (.int 2147483647))) (tC (.int 13)))) (tVar 1))))))
def tNextDef (K : PySem.W.Frag) : TS := tSeq (tNextA K) (tSeq (tIfS (tTest (tOp (rNeD K) (tKey "left") (tLst tNil))) (tNextB K) tNext) (tNextC K))
theorem small64 {k : Int} (h0 : 0 ≤ k) (h1 : k ≤ 10 ^ 15 + 1) : -(2 ^ 64) < k ∧ k < 2 ^ 64 := by constructor <;> omega
theorem next_vc {M : Md} {vs : List V} {Q : VK} {E : XK} (h : spL M spNext vs H Q E) : tNextDef M.K { nx := fun _ H' => Q .non H', rt := Q } (vs.map some ++ List.replicate (7 - vs.length) none) H := by
  obtain ⟨R, Fz, B, ds, Qd, Ed, wd, hd, ⟨a, n, k, rfl, rfl, k1, k2, hn, hq⟩, kq, _⟩ := h
  cases hd with
  | cons h0 hd => cases hd with
    | cons h1 hd =>
      cases hd; cases h0; cases h1
      obtain ⟨c, l, cs, ls, kk, dx, kk0, kk1⟩ := wd.draw
      show tNextA M.K _ [some (.ref a), some (.int k), none, none, none, none, none] H
      have fin : ∀ (H' : Hp) (c l : Addr) (cs ls : List Int) (k' r : Int), DrawX a B Fz H' c l cs ls k' → 0 ≤ k' → k' ≤ n + 1 → 0 ≤ r → r < k → Q (.int r) H' := fun H' c l cs ls k' r d z0 z1 r0 r1 =>
        kq (drawR a (n + 1)) (.int r) H' B (.int r) (Ex.refl B) (d.wd wd.sys wd.dis z0 z1) (.int r) (hq r r0 r1)
      refine ⟨fun m σ H' => σ = [some (.ref a), some (.int k), none, none, none, none, none] ∧ ∃ l ls, m = ls.length ∧ DrawX a B Fz H' c l cs ls kk, ⟨ls.length, rfl, l, ls, rfl, dx⟩, ?_⟩
      rintro m σ H' ⟨rfl, l, ls, rfl, d⟩
      refine ne_nil (fun Q' q => left_v rfl d Q' q) d.hl fun x hx => ?_
      cases ls with
      | cons y r =>
        refine iteT ?_
        have d1 := d.junk (o := .lst []) hx
        refine left_v rfl d1 _ ⟨l, _, 0, .int y, rfl, rfl, SqL.of d1.hl, atI0 _ _, rfl, _, rfl, ?_⟩
        by_cases hy : y = 0
        · rw [hy, decide_eq_true rfl]
          refine iteT ⟨fun σ2 H2 => σ2 = [some (.ref a), some (.int k), none, none, none, none, none] ∧ ∃ l, DrawX a B Fz H2 c l cs r kk, fun σ2 H2 ⟨e, l2, z⟩ => ⟨r.length, Nat.lt_succ_self _, e, l2, r, rfl, z⟩, ?_⟩
          refine left_v rfl d1 _ ⟨1, rfl, l, _, rfl, SqL.of d1.hl, fun p hp => ?_⟩
          have e : cutV ((y :: r).map V.int) (some 1) none = r.map V.int := by
            unfold cutV
            simp [HT.sIx]
            exact List.take_of_length_le (by simp)
          rw [e]
          have d2 := d1.drop (p := p) (ms := r) hp (fun x m => d.nn x (List.mem_cons_of_mem _ m)) (by have := d.ll; simp at this; omega)
          have ha' : (L2.upd (L2.upd H' x (.lst [])) p (.lst (r.map V.int))) a = some (.dK (drawK c l kk)) := by rw [upd_ne (ne_of_none d1.ha hp)]; exact d1.ha
          refine ⟨_, rfl, a, _, rfl, .inl ⟨_, Sum.inr "left", ha', rfl, (by show 3 < sizeLine; decide), rfl⟩, rfl, p, ?_⟩
          rw [dk_putl]
          exact d2
        · rw [decide_eq_false (fun z => hy (by injection z))]
          refine iteF ?_
          -- a digit of a great cell
          show tTest (tOp (rNeD M.K) (tKey "left") (tLst tNil)) _ _ _
          refine ne_nil (fun Q' q => left_v rfl d1 Q' q) d1.hl fun x2 hx2 => iteT ?_
          have d3 := d1.junk (o := .lst []) hx2
          have y0 : 0 ≤ y := d.nn y (List.mem_cons_self ..)
          refine left_v rfl d3 _ ⟨l, _, 0, .int y, rfl, rfl, SqL.of d3.hl, atI0 _ _, ?_⟩
          refine ⟨_, rfl, _, rfl, y, k, rfl, rfl, ⟨by omega, by omega⟩, left_v rfl d3 _ ⟨l, _, 0, 0, rfl, rfl, d3.hl, by unfold ixN; rw [if_pos (by omega), if_pos (by simp)]; rfl, ?_⟩⟩
          have d4 := d3.store (ms := y / k :: r) (fun x m => by
            rcases List.mem_cons.mp m with rfl | m
            · exact Int.ediv_nonneg y0 (by omega)
            · exact d.nn x (List.mem_cons_of_mem _ m)) (by have := d.ll; simpa using this)
          refine ⟨_, rfl, .inl ⟨y, rfl, _, rfl, y, k, rfl, rfl, by omega, ?_⟩⟩
          exact fin _ c l cs _ kk (y % k) d4 kk0 (by omega) (Int.emod_nonneg _ (by omega)) (Int.emod_lt_of_pos _ (by omega))
      | nil =>
        refine iteF (iteF ?_)
        have d1 := d.junk (o := .lst []) hx
        show tTest (tOp (rNeD M.K) (tKey "left") (tLst tNil)) _ _ _
        refine ne_nil (fun Q' q => left_v rfl d1 Q' q) d1.hl fun x2 hx2 => iteF ?_
        have d2 := d1.junk (o := .lst []) hx2
        show tNextC M.K _ _ _
        have s1 := small64 (k := kk + 1) (by omega) (by omega)
        refine at_v rfl d2 _ ⟨kk, 1, rfl, rfl, cells_v rfl d2 _ ⟨_, _, rfl, ?_⟩⟩
        refine ⟨_, rfl, _, rfl, a, _, rfl, .inl ⟨_, Sum.inr "at", d2.ha, rfl, (by show 3 < sizeLine; decide), rfl⟩, ?_⟩
        rw [dk_puta]
        have d3 := d2.tick (k' := kk + 1)
        show tTest (tOp (rNeD M.K) (tVar 4) (tLst tNil)) [some (.ref a), some (.int k), none, some (.int (kk + 1)), some (.ref c), none, none] _ _
        refine ne_nil (fun Q' q => ⟨_, rfl, q⟩) d3.hc fun x3 hx3 => ?_
        have d4 := d3.junk (o := .lst []) hx3
        have rest : ∀ (cell : Int), tSeq (tAsg (tOp oMod (tInt (tOp oAdd (tOp oAdd (tOp oMul (tVar 5) (tC (.int 40692))) (tOp oMul (tVar 3) (tC (.int 65539)))) (tOp oMul (tOp oMul (tC (.int 7001)) (tVar 3)) (tVar 3)))) (tC (.int 2147483399))) (gName 6))
            (tRet (tOp oMod (tInt (tOp oDiv (tOp oMod (tInt (tOp oAdd (tOp oMul (tVar 6) (tC (.int 48271))) (tOp oMul (tC (.int 1013)) (tVar 3)))) (tC (.int 2147483647))) (tC (.int 13)))) (tVar 1))) { nx := fun _ H' => Q .non H', rt := Q }
            [some (.ref a), some (.int k), none, some (.int (kk + 1)), some (.ref c), some (.int cell), none] (L2.upd (L2.upd (L2.upd (L2.upd H' x (.lst [])) x2 (.lst [])) a (.dK (drawK c l (kk + 1)))) x3 (.lst [])) := fun cell => by
          refine ⟨_, rfl, cell, 40692, rfl, rfl, .inr (by decide), _, rfl, _, _, rfl, rfl, .inr (by decide), _, _, rfl, rfl, _, rfl, _, _, rfl, rfl, .inl (by decide), _, rfl, _, _, rfl, rfl, .inr s1, _, _, rfl, rfl, .inl ⟨_, rfl, _, _, rfl, rfl, (by show (0 : Int) < 2147483399; decide), ?_⟩⟩
          refine ⟨_, rfl, _, _, rfl, rfl, .inr (by decide), _, rfl, _, _, rfl, rfl, .inl (by decide), _, _, rfl, rfl, .inl ⟨_, rfl, _, _, rfl, rfl, (by show (0 : Int) < 2147483647; decide), _, _, rfl, rfl, ⟨by decide, by decide⟩, .inl ⟨_, rfl, _, rfl, _, _, rfl, rfl, by omega, ?_⟩⟩⟩
          exact fin _ c l cs _ (kk + 1) _ d4 (by omega) (by omega) (Int.emod_nonneg _ (by omega)) (Int.emod_lt_of_pos _ (by omega))
        cases cs with
        | nil =>
          refine iteF ?_
          exact rest 5
        | cons z zs =>
          refine iteT ?_
          have len1 : (0 : Int) < (((z :: zs).map V.int).length : Nat) := by simp
          refine ⟨_, rfl, _, rfl, _, rfl, _, _, rfl, rfl, .inl s1, _, rfl, _, _, rfl, rfl, ⟨by decide, by decide⟩, _, _, rfl, rfl, .inl ⟨_, rfl, _, rfl, c, _, rfl, .inl (SqL.of d4.hc), _, _, rfl, rfl, len1, ?_⟩⟩
          have i0 := Int.emod_nonneg ((kk + 1) * (kk + 1) + (kk + 1) / 2) (Int.ne_of_gt len1)
          have i1 := Int.emod_lt_of_pos ((kk + 1) * (kk + 1) + (kk + 1) / 2) len1
          obtain ⟨v, hv⟩ : ∃ v, atI ((z :: zs).map V.int) (((kk + 1) * (kk + 1) + (kk + 1) / 2) % (((z :: zs).map V.int).length : Nat)) = some v := by
            unfold atI ixN
            rw [if_pos i0, if_pos (by omega)]
            exact ⟨_, List.getElem?_eq_getElem (by omega)⟩
          have hm : v ∈ (z :: zs).map V.int := by
            unfold atI at hv
            cases q : ixN ((z :: zs).map V.int).length (((kk + 1) * (kk + 1) + (kk + 1) / 2) % (((z :: zs).map V.int).length : Nat)) with
            | none => rw [q] at hv; cases hv
            | some j => rw [q] at hv; exact List.mem_of_getElem? hv
          obtain ⟨i, _, rfl⟩ := List.mem_map.mp hm
          exact ⟨c, _, _, .int i, rfl, rfl, SqL.of d4.hc, hv, .inl ⟨i, rfl, rest i⟩⟩
end
end DL

set_option Elab.async false
set_option linter.all false
set_option maxRecDepth 100000
set_option maxHeartbeats 400000
namespace DL
open PySem L2 PySem.Spec PyProof.Rows
abbrev rListSq (K : PySem.W.Frag) : List V → Hp → VK → Prop := fun xs H Q => ∃ p ys, xs = [.ref p] ∧ (SqL K H p ys ∨ SqT K H p ys) ∧ ∀ l, H l = none → Q (.ref l) (L2.upd H l (.lst ys))
abbrev oGe : R2 := rI0 fun i j => .bl (decide (j ≤ i))
abbrev oPow : R2 := rI CPow fun i j => .int (i ^ j.toNat)
def tBegunDef (K : PySem.W.Frag) : TS := tRet (tDisp [(tC (.str "cells"), tCB (rListSq K) (tCons (tVar 0) tNil)), (tC (.str "left"), tLc (iList K (tVar 0)) (gName 1) (tTest (tOp oGe (tVar 1) (tOp oPow (tC (.int 10)) (tC (.int 18))))) (tVar 1) [1]), (tC (.str "at"), tC (.int 0))])
theorem merge3 {c l : Addr} {k : Int} : mergeK [] (drawK c l k) = drawK c l k := by
  simp [mergeK, putK, sne1, sne2, sne3]
theorem begun_vc {H : Hp} {M : Md} {vs : List V} {Q : VK} {E : XK} (h : spL M spBegun vs H Q E) : tBegunDef M.K { nx := fun _ H' => Q .non H', rt := Q } (vs.map some ++ List.replicate (2 - vs.length) none) H := by
  obtain ⟨R, Fz, B, ds, Qd, Ed, wd, hd, ⟨ns, rfl, rfl, hl, hq⟩, kq, _⟩ := h
  cases hd with
  | cons h0 hd =>
    cases hd
    cases h0 with
    | @frl a xs _ hs hx =>
      have ex := hx.ofInts
      subst ex
      intro p hp
      have e1 : Ex H (L2.upd H p (.dK [])) := Ex.new hp
      refine ⟨_, rfl, a, _, rfl, .inl ((wd.ex.trans e1).sl hs), fun c hc => ?_⟩
      have e2 : Ex (L2.upd H p (.dK [])) (L2.upd (L2.upd H p (.dK [])) c (.lst (ns.map V.int))) := Ex.new hc
      have np : p ≠ c := fun z => by rw [← z, upd_same] at hc; cases hc
      refine ⟨_, rfl, a, rfl, ⟨_, (wd.ex.trans (e1.trans e2)).sl hs⟩, fun l hl' => ?_⟩
      refine lc_list (K := M.K) (a := a) (xs := ns.map V.int) (fun i H' => ∃ ms : List Int, (∀ x ∈ ms, 0 ≤ x) ∧ ms.length ≤ i ∧ Ex (L2.upd (L2.upd H p (.dK [])) c (.lst (ns.map V.int))) H' ∧ H' l = some (.lst (ms.map V.int)))
        ⟨[], by simp, Nat.zero_le _, Ex.new hl', upd_same⟩ (fun i H' _ ⟨ms, _, _, e3, _⟩ => (wd.ex.trans ((e1.trans e2).trans e3)).sl hs) ?_ ?_
      · rintro i x H' hi ⟨ms, m0, ml, e3, m3⟩
        rw [List.getElem?_map] at hi
        cases q : ns[i]? with
        | none => rw [q] at hi; cases hi
        | some y =>
          rw [q] at hi
          cases hi
          refine ⟨rfl, _, rfl, _, _, rfl, rfl, ⟨by decide, by decide, by decide⟩, y, _, rfl, rfl, _, rfl, ?_⟩
          by_cases hy : (10 : Int) ^ (18 : Int).toNat ≤ y
          · rw [decide_eq_true hy]
            refine iteT ⟨_, rfl, _, m3, ?_, ms ++ [y], ?_, by simp; omega, fun b u e => ?_, ?_⟩
            · rw [List.length_map, sizeLine_eq]
              have := (List.getElem?_eq_some_iff.mp q).1
              omega
            · intro z hz
              rcases List.mem_append.mp hz with hz | hz
              · exact m0 z hz
              · simp at hz; subst hz
                have : (0 : Int) ≤ 10 ^ (18 : Int).toNat := by decide
                omega
            · rw [upd_ne (ne_of_none e hl')]; exact e3 b u e
            · rw [upd_same, List.map_append]; rfl
          · rw [decide_eq_false hy]
            exact iteF ⟨ms, m0, by omega, e3, m3⟩
      · rintro H' ⟨ms, m0, ml, e3, m3⟩
        rw [List.length_map] at ml
        have hpc : H' p = some (.dK []) := e3 _ _ (e2 _ _ upd_same)
        have hcc : H' c = some (.lst (ns.map V.int)) := e3 _ _ upd_same
        refine ⟨hpc, drawK c l 0, rfl, (by show 3 ≤ 15; decide), ?_⟩
        rw [merge3]
        have hB : ∀ {x : Addr}, H x = none → B x = none ∧ Fz x = none := fun hx => ⟨wd.ex.free hx, wd.fz.free hx⟩
        have hcH : H c = none := e1.free hc
        have hlH : H l = none := (e1.trans e2).free hl'
        have big := (e1.trans e2).trans e3
        have npl : p ≠ l := fun z => by rw [z] at hpc; rw [m3] at hpc; cases hpc
        have ncl : c ≠ l := ne_of_none upd_same hl'
        have d : DrawX p B Fz (L2.upd H' p (.dK (drawK c l 0))) c l ns ms 0 :=
          ⟨fun b u e => by rw [upd_ne (ne_of_none (wd.ex b u e) hp)]; exact big b u (wd.ex b u e), fun b u e => by rw [upd_ne (ne_of_none (wd.fz b u e) hp)]; exact big b u (wd.fz b u e),
            hB hp, hB hcH, hB hlH, npl, ncl, np.symm, upd_same, by rw [upd_ne np.symm]; exact hcc, by rw [upd_ne npl.symm]; exact m3, hl, m0, by omega⟩
        exact kq (drawR p 0) (.ref p) _ B (.ref p) (Ex.refl B) (d.wd wd.sys wd.dis (Int.le_refl 0) (Int.le_refl 0)) (.ref p) (hq p)
end DL

set_option Elab.async false
set_option linter.all false
set_option maxRecDepth 100000
set_option maxHeartbeats 400000
namespace DL
open PySem L2 PySem.Spec PyProof.Rows
section
variable {X : Cx} {W : WX} {a b c e e2 tg : Expr} {es rest : List Expr} {ta tb tc t : DT} {tA tB' : DB} {tr : DA} {pos : Pos} {js : List Nat} {g : DG} {gl : DGl} {st : Stmt} {sts sts2 : List Stmt} {ts tu : DSt}
/-! ### stars in displays and calls -/
def seqD : D → Option (List D)
  | .tup ds => some ds | .lst ds => some ds | .tpw ds => some ds | _ => none
def dStar (ta : DT) (tr : DA) : DA := fun R ρ Q E => ta R ρ (fun R d => ∃ xs, seqD d = some xs ∧ tr R ρ (fun R ys => Q R (xs ++ ys)) E) E
theorem da_star {p : Pos} (he : DE X W e t) (hr : DAs X W es tr) (hs : starEach (.Starred e p :: es) X.env = (true, eval e X.env) :: starEach es X.env := by rfl) : DAs X W (.Starred e p :: es) (dStar t tr) :=
  (StX.pa_star he hr hs).imp fun σ H Q ⟨R, Fz, B, ρ, Qd, E, w, sl, q, k, x⟩ => ⟨R, Fz, B, ρ, _, E, w, sl, q, fun R v H1 B1 d e1 w1 h1 ⟨xs, hx, q1⟩ => by
    cases h1 with
    | tup s h => cases hx; exact ⟨_, _, rfl, .inl (w1.ex.st s.st), R, Fz, B1, ρ, _, E, w1, sl.mono e1, q1, fun R vs H2 B2 ds e2 w2 h2 q2 => k R _ H2 B2 _ (e1.trans e2) w2 ((h.mono e2).append h2) q2, x.mono e1⟩
    | tpw s h => cases hx; exact ⟨_, _, rfl, .inl (w1.ex.st s), R, Fz, B1, ρ, _, E, w1, sl.mono e1, q1, fun R vs H2 B2 ds e2 w2 h2 q2 => k R _ H2 B2 _ (e1.trans e2) w2 ((h.mono e2).append h2) q2, x.mono e1⟩
    | lst s h => cases hx; exact ⟨_, _, rfl, .inr (SqL.of (w1.ex _ _ s)), R, Fz, B1, ρ, _, E, w1, sl.mono e1, q1, fun R vs H2 B2 ds e2 w2 h2 q2 => k R _ H2 B2 _ (e1.trans e2) w2 ((h.mono e2).append h2) q2, x.mono e1⟩
    | _ => (cases hx), x⟩

/-! ### a, b = x, y -/
def dPar (i j : Nat) (tr : DA) : DSt := fun R De ρ => tr R ρ (fun R ds => ∃ u v, ds = [u, v] ∧ De.nx R ((ρ.set i (some u)).set j (some v))) (fun R c fs => De.ex R c fs ρ)
theorem ds_par {i j : Nat} {x y : Str} {px py pt : Pos} {kt k2 pt2} (hc : X.calm = true) (hN : X.N.Nodup) (hi : X.N[i]? = some x) (hj : X.N[j]? = some y) (hij : i ≠ j) (hx : X.env.scope.names.lookup x = some .local) (hy : X.env.scope.names.lookup y = some .local)
    (ha : DAs X W [a, b] tr) (hw : swappedStores [.Tuple [.Name x px, .Name y py] kt pt] (.Tuple [a, b] k2 pt2) X.env = pure (some [x, y])) (hs : swapsWithSole [.Tuple [.Name x px, .Name y py] kt pt] (.Tuple [a, b] k2 pt2) pos.line X.env = pure false := by rfl) :
    DS X W (.Assign [.Tuple [.Name x px, .Name y py] kt pt] (.Tuple [a, b] k2 pt2) pos) (dPar i j tr) :=
  (ps_par hc hN hi hj hij hx hy ha hw hs).imp fun En σ H ⟨R, F0, B, Fz, ρ, De, s, q, x⟩ => ⟨R, Fz, B, ρ, _, _, s.wd, s.sl, q, fun R vs H' B' ds e w h ⟨u, v, hd, q1⟩ => by
    subst hd
    cases h with
    | cons h1 h => cases h with
      | cons h2 h => cases h; exact ⟨_, _, rfl, x.nx R _ _ B' Fz H' e (((s.grow e w).set h1).set h2) q1⟩, x.xl s⟩
def dPar3 (i j l : Nat) (tr : DA) : DSt := fun R De ρ => tr R ρ (fun R ds => ∃ u v z, ds = [u, v, z] ∧ De.nx R (((ρ.set i (some u)).set j (some v)).set l (some z))) (fun R c fs => De.ex R c fs ρ)
theorem ds_par3 {i j l : Nat} {x y z : Str} {px py pz pt : Pos} {kt k2 pt2} (hc : X.calm = true) (hN : X.N.Nodup) (hi : X.N[i]? = some x) (hj : X.N[j]? = some y) (hl : X.N[l]? = some z) (hij : i ≠ j) (hil : i ≠ l) (hjl : j ≠ l) (hx : X.env.scope.names.lookup x = some .local)
    (hy : X.env.scope.names.lookup y = some .local) (hz : X.env.scope.names.lookup z = some .local) (ha : DAs X W [a, b, c] tr) (hw : swappedStores [.Tuple [.Name x px, .Name y py, .Name z pz] kt pt] (.Tuple [a, b, c] k2 pt2) X.env = pure (some [x, y, z]))
    (hs : swapsWithSole [.Tuple [.Name x px, .Name y py, .Name z pz] kt pt] (.Tuple [a, b, c] k2 pt2) pos.line X.env = pure false := by rfl) :
    DS X W (.Assign [.Tuple [.Name x px, .Name y py, .Name z pz] kt pt] (.Tuple [a, b, c] k2 pt2) pos) (dPar3 i j l tr) :=
  (ps_par3 hc hN hi hj hl hij hil hjl hx hy hz ha hw hs).imp fun En σ H ⟨R, F0, B, Fz, ρ, De, s, q, x⟩ => ⟨R, Fz, B, ρ, _, _, s.wd, s.sl, q, fun R vs H' B' ds e w h ⟨u, v, z, hd, q1⟩ => by
    subst hd
    cases h with
    | cons h1 h => cases h with
      | cons h2 h => cases h with
        | cons h3 h => cases h; exact ⟨_, _, _, rfl, x.nx R _ _ B' Fz H' e ((((s.grow e w).set h1).set h2).set h3) q1⟩, x.xl s⟩

/-! ### targets and what is owned -/
/-- the slots ks are taken, the others keep what they own -/
def OF (ks : List Nat) (g : DG) : Prop := ∀ (M : Md) (B : Hp) (v : V) (d : D), Dp M B v d → ∀ (ρ : Env) (Q : Env → Prop), g d ρ Q → g d ρ fun ρ' => Q ρ' ∧ ∀ (i : Nat) (x : D), ρ'[i]? = some (some (.own x)) → i ∉ ks ∧ ρ[i]? = some (some (.own x))
def OFs (ks : List Nat) (g : DGl) : Prop := ∀ (M : Md) (B : Hp) (v : List V) (d : List D), Dps M B v d → ∀ (ρ : Env) (Q : Env → Prop), g d ρ Q → g d ρ fun ρ' => Q ρ' ∧ ∀ (i : Nat) (x : D), ρ'[i]? = some (some (.own x)) → i ∉ ks ∧ ρ[i]? = some (some (.own x))
theorem of_name (i : Nat) : OF [i] (gdName i) := fun M B v d h ρ Q q => ⟨q, fun k x e => by
  obtain ⟨n, e⟩ := set_own (fun y hy => by cases hy; exact h.notOwn) e
  exact ⟨by simp; exact fun z => n z.symm, e⟩⟩
theorem ofs_nil : OFs [] gdNil := fun M B v d h ρ Q ⟨q1, q⟩ => ⟨q1, q, fun i x e => ⟨by simp, e⟩⟩
def Mon (g : DG) : Prop := ∀ (d : D) (ρ : Env) (Q Q' : Env → Prop), (∀ ρ', Q ρ' → Q' ρ') → g d ρ Q → g d ρ Q'
def Mons (g : DGl) : Prop := ∀ (d : List D) (ρ : Env) (Q Q' : Env → Prop), (∀ ρ', Q ρ' → Q' ρ') → g d ρ Q → g d ρ Q'
theorem mon_name (i : Nat) : Mon (gdName i) := fun _ _ _ _ f q => f _ q
theorem mons_nil : Mons gdNil := fun _ _ _ _ f ⟨e, q⟩ => ⟨e, f _ q⟩
theorem mons_cons (h1 : Mon g) (h2 : Mons gl) : Mons (gdCons g gl) := fun _ _ _ _ f ⟨d, r, e, q⟩ => ⟨d, r, e, h1 _ _ _ _ (fun _ z => h2 _ _ _ _ f z) q⟩
theorem mon_tup (h : Mons gl) : Mon (gdTup gl) := fun _ _ _ _ f ⟨ds, e, q⟩ => ⟨ds, e, h _ _ _ _ f q⟩
theorem ofs_cons {ks ls : List Nat} (hg : OF ks g) (hl : OFs ls gl) (m1 : Mon g) (m2 : Mons gl) : OFs (ks ++ ls) (gdCons g gl) := fun M B v d h ρ Q ⟨d1, r, q1, q⟩ => by
  subst q1
  cases h with
  | cons h1 h2 =>
    refine ⟨d1, r, rfl, m1 _ _ _ _ (fun ρ' ⟨z, ho⟩ => m2 _ _ _ _ (fun ρ2 ⟨z2, ho2⟩ => ⟨z2, fun i x e => ?_⟩) (hl _ _ _ _ h2 ρ' Q z)) (hg _ _ _ _ h1 ρ _ q)⟩
    obtain ⟨n2, e2⟩ := ho2 i x e
    obtain ⟨n1, e1⟩ := ho i x e2
    exact ⟨fun m => (List.mem_append.mp m).elim n1 n2, e1⟩
theorem of_tup {ks : List Nat} (h : OFs ks gl) : OF ks (gdTup gl) := fun M B v d hd ρ Q ⟨ds, e, q⟩ => by
  rcases e with e | e
  · subst e
    cases hd with
    | tup s hd => exact ⟨ds, .inl rfl, h _ _ _ _ hd ρ Q q⟩
  · subst e
    cases hd with
    | tpw s hd => exact ⟨ds, .inr rfl, h _ _ _ _ hd ρ Q q⟩
theorem OF.sub {ks ls : List Nat} (h : OF ks g) (m : Mon g) (hs : ∀ i ∈ ls, i ∈ ks) : OF ls g := fun M B v d hd ρ Q q => m _ _ _ _ (fun _ ⟨z, ho⟩ => ⟨z, fun i x e => ⟨fun k => (ho i x e).1 (hs i k), (ho i x e).2⟩⟩) (h M B v d hd ρ Q q)
/-- the word of a tuple of two, of three names -/
abbrev gd2 (i j : Nat) : DG := gdTup (gdCons (gdName i) (gdCons (gdName j) gdNil))
abbrev gd3 (i j k : Nat) : DG := gdTup (gdCons (gdName i) (gdCons (gdName j) (gdCons (gdName k) gdNil)))
theorem of_2 (i j : Nat) : OF [i, j] (gd2 i j) := of_tup (ofs_cons (of_name i) (ofs_cons (of_name j) ofs_nil (mon_name j) mons_nil) (mon_name i) (mons_cons (mon_name j) mons_nil))
theorem of_3 (i j k : Nat) : OF [i, j, k] (gd3 i j k) := of_tup (ofs_cons (of_name i) (ofs_cons (of_name j) (ofs_cons (of_name k) ofs_nil (mon_name k) mons_nil) (mon_name j) (mons_cons (mon_name k) mons_nil)) (mon_name i) (mons_cons (mon_name j) (mons_cons (mon_name k) mons_nil)))
theorem dg_2 {i j : Nat} {x y : Str} {px py : Pos} {k : Nat} (hc : X.calm = true) (h1 : DGt X [i, j] (.Name x px) (gdName i)) (h2 : DGt X [i, j] (.Name y py) (gdName j)) (hn : (assignEach [.Name x px, .Name y py] X.env).length = 2 := by rfl) (hst : (assignEach [.Name x px, .Name y py] X.env).findIdx? (·.1) = none := by rfl)
    (s1 : (assignEach [.Name x px, .Name y py] X.env).map (·.2) = assign (.Name x px) X.env :: (assignEach [.Name y py] X.env).map (·.2) := by rfl) (s2 : (assignEach [.Name y py] X.env).map (·.2) = assign (.Name y py) X.env :: (assignEach [] X.env).map (·.2) := by rfl) :
    DGt X [i, j] (.Tuple [.Name x px, .Name y py] k pos) (gd2 i j) :=
  dg_tup hc (dgs_cons h1 (dgs_cons h2 dgs_nil s2) s1) hn hst (gl_cons (gl_cons gl_nil mono_name) mono_name)
theorem dg_3 {i j l : Nat} {x y z : Str} {px py pz : Pos} {k : Nat} (hc : X.calm = true) (h1 : DGt X [i, j, l] (.Name x px) (gdName i)) (h2 : DGt X [i, j, l] (.Name y py) (gdName j)) (h3 : DGt X [i, j, l] (.Name z pz) (gdName l)) (hn : (assignEach [.Name x px, .Name y py, .Name z pz] X.env).length = 3 := by rfl)
    (hst : (assignEach [.Name x px, .Name y py, .Name z pz] X.env).findIdx? (·.1) = none := by rfl) (s1 : (assignEach [.Name x px, .Name y py, .Name z pz] X.env).map (·.2) = assign (.Name x px) X.env :: (assignEach [.Name y py, .Name z pz] X.env).map (·.2) := by rfl)
    (s2 : (assignEach [.Name y py, .Name z pz] X.env).map (·.2) = assign (.Name y py) X.env :: (assignEach [.Name z pz] X.env).map (·.2) := by rfl) (s3 : (assignEach [.Name z pz] X.env).map (·.2) = assign (.Name z pz) X.env :: (assignEach [] X.env).map (·.2) := by rfl) :
    DGt X [i, j, l] (.Tuple [.Name x px, .Name y py, .Name z pz] k pos) (gd3 i j l) :=
  dg_tup hc (dgs_cons h1 (dgs_cons h2 (dgs_cons h3 dgs_nil s3) s2) s1) hn hst (gl_cons (gl_cons (gl_cons gl_nil mono_name) mono_name) mono_name)

/-! ### comprehensions of two fors -/
/-- the inner loop: D's list grows -/
theorem lc_inner {M : Md} {g : DG} {tt : DB} {te : DT} {vs js : List Nat} (hj : ∀ i ∈ js, i ∈ vs) {σ : L2.St} {ρ : Env} {R1 : Res} {B0 B1 Fz H1 : Hp} {J : It} {ds : List D} {Dl : Addr} {av : List V} {acc : List D} {Nx : Hp → Prop} {Qd : Res → List D → Prop}
    (w1 : Wd R1 B1 (L2.upd Fz Dl (.lst av)) H1) (e0 : Ex B0 B1) (it : ItD M B1 J ds) (sl : Slots M B1 σ ρ) (ha : Dps M B1 av acc) (q1 : lcGo g tt te (wipeD ρ vs) ds acc R1 Qd)
    (hN : ∀ (R : Res) (B' H' : Hp) (av : List V) (acc : List D), Ex B0 B' → Wd R B' (L2.upd Fz Dl (.lst av)) H' → Dps M B' av acc → Qd R acc → Nx H') :
    ∃ W1 : Nat → Nat → Hp → Prop, (∃ m, W1 0 m H1) ∧ ∀ j k H, W1 j k H → (J.stop j H ∧ Nx H) ∨ (J.go j H ∧ ∃ Nx1 : Hp → Prop, (∀ H', Nx1 H' → ∃ k', k' < k ∧ W1 (j + 1) k' H') ∧ ∀ x H', J.yld j H x H' → liftG M js g x (L2.wipe σ vs) H' fun σ3 H5 => L2.wipe σ3 vs = L2.wipe σ vs ∧ liftB M W0 tt σ3 H5 fun b H6 =>
        if b = true then lift M W0 te σ3 H6 fun y H7 => ∃ acc, H7 Dl = some (.lst acc) ∧ acc.length < sizeLine ∧ Nx1 (L2.upd H7 Dl (.lst (acc ++ [y]))) else Nx1 H6) := by
  have sl1 := sl.wipe vs
  refine ⟨fun i m H' => m = ds.length - i ∧ i ≤ ds.length ∧ ∃ R B' av acc, Ex B1 B' ∧ Wd R B' (L2.upd Fz Dl (.lst av)) H' ∧ Dps M B' av acc ∧ lcGo g tt te (wipeD ρ vs) (ds.drop i) acc R Qd, ⟨ds.length, by omega, Nat.zero_le _, R1, B1, av, acc, Ex.refl _, w1, ha, q1⟩, ?_⟩
  rintro i m H' ⟨hm, hi, R2, B', av, acc, e2, w2, ha, q2⟩
  by_cases hlt : i < ds.length
  · obtain ⟨d, hd⟩ := get_lt hlt
    have hdr : ds.drop i = d :: ds.drop (i + 1) := by
      rw [List.drop_eq_getElem_cons hlt]
      congr 1
      rw [List.getElem?_eq_getElem hlt] at hd
      exact Option.some.inj hd
    rw [hdr] at q2
    refine .inr ⟨it.go R2 _ B' H' i e2 w2 hlt, fun H3 => ∃ R3 B3 av3 acc3, Ex B1 B3 ∧ Wd R3 B3 (L2.upd Fz Dl (.lst av3)) H3 ∧ Dps M B3 av3 acc3 ∧ lcGo g tt te (wipeD ρ vs) (ds.drop (i + 1)) acc3 R3 Qd,
      fun H3 ⟨R3, B3, av3, acc3, z1, z2, z3, z4⟩ => ⟨ds.length - (i + 1), by omega, rfl, hlt, R3, B3, av3, acc3, z1, z2, z3, z4⟩, fun v H3 hy => ?_⟩
    obtain ⟨d', B3, hd', e3, w3, hv⟩ := it.yld R2 _ B' H' i v H3 e2 w2 hlt hy
    rw [hd] at hd'
    cases hd'
    refine ⟨B3, wipeD ρ vs, d, _, w3.ex, sl1.mono (e2.trans e3), hv, q2, fun σ2 ρ2 sb sl2 q3 => ⟨wipe_same (sb.mono hj), ?_⟩⟩
    refine ⟨R2, _, B3, ρ2, _, noX, w3, sl2, q3, fun R4 b H4 B4 e4 w4 q4 => ?_, XL.no⟩
    cases b with
    | true =>
      refine ⟨R4, _, B4, ρ2, _, noX, w4, sl2.mono e4, q4, fun R5 y H5 B5 dy e5 w5 hyd ⟨hz, q5⟩ => ?_, XL.no⟩
      have l1 : av.length = acc.length := ha.length
      refine ⟨av, w5.fz _ _ upd_same, by rw [l1]; exact hz, R5, B5, av ++ [y], acc ++ [dy], (((e2.trans e3).trans e4).trans e5), ?_, ((ha.mono ((e3.trans e4).trans e5)).append (.cons hyd .nil)), q5⟩
      have w6 := w5.turn (p := Dl) (o := .lst (av ++ [y])) (u := .lst av) upd_same (fun _ z => by cases z)
      rw [upd_upd] at w6
      exact w6
    | false => exact ⟨R4, B4, av, acc, ((e2.trans e3).trans e4), w4, ha.mono (e3.trans e4), q4⟩
  · refine .inl ⟨it.stop R2 _ B' H' i e2 w2 (by omega), ?_⟩
    have hdr : ds.drop i = [] := List.drop_eq_nil_of_le (by omega)
    rw [hdr] at q2
    exact hN R2 B' H' av acc (e0.trans e2) w2 ha q2
def lc2Go (g : DG) (tt : DB) (ti1 : DI) (g1 : DG) (tt1 : DB) (te : DT) (vs1 : List Nat) (ρ : Env) : List D → List D → Res → (Res → List D → Prop) → Prop
  | [], acc, R, Q => Q R acc
  | d :: r, acc, R, Q => g d ρ fun ρ2 => tt R ρ2 (fun R b => if b = true then ti1 R ρ2 (fun R ds1 => lcGo g1 tt1 te (wipeD ρ2 vs1) ds1 acc R fun R acc' => lc2Go g tt ti1 g1 tt1 te vs1 ρ r acc' R Q) noX else lc2Go g tt ti1 g1 tt1 te vs1 ρ r acc R Q) noX
def dLc2 (ti : DI) (g : DG) (tt : DB) (ti1 : DI) (g1 : DG) (tt1 : DB) (te : DT) (vs vs1 : List Nat) : DT := fun R ρ Q E => ti R ρ (fun R ds => lc2Go g tt ti1 g1 tt1 te vs1 (wipeD ρ vs) ds [] R fun R out => Q R (.lst out)) E
theorem lc2_lift {M : Md} {ti ti1 : DI} {g g1 : DG} {tt tt1 : DB} {te : DT} {vs vs1 js js1 : List Nat} (hj : ∀ i ∈ js, i ∈ vs) (hj1 : ∀ i ∈ js1, i ∈ vs1) {σ : L2.St} {H : Hp} {Q : VK} (h : lift M W (dLc2 ti g tt ti1 g1 tt1 te vs vs1) σ H Q) :
    tLc2 (liftI M W ti) (liftG M js g) (liftB M W0 tt) (liftI M W0 ti1) (liftG M js1 g1) (liftB M W0 tt1) (lift M W0 te) vs vs1 σ H Q := by
  obtain ⟨R, Fz, B, ρ, Qd, E, w, sl, q, k, x⟩ := h
  refine ⟨R, Fz, B, ρ, _, E, w, sl, q, fun R1 J H1 B1 ds e1 w1 it q1 Dl hD => ?_, x⟩
  have sl1 := (sl.mono e1).wipe vs
  refine ⟨fun i m H' => m = ds.length - i ∧ i ≤ ds.length ∧ ∃ R B' av acc, Ex B1 B' ∧ Wd R B' (L2.upd Fz Dl (.lst av)) H' ∧ Dps M B' av acc ∧ lc2Go g tt ti1 g1 tt1 te vs1 (wipeD ρ vs) (ds.drop i) acc R (fun R out => Qd R (.lst out)),
    ⟨ds.length, by omega, Nat.zero_le _, R1, B1, [], [], Ex.refl _, w1.own hD, .nil, q1⟩, ?_⟩
  rintro i m H' ⟨hm, hi, R2, B', av, acc, e2, w2, ha, q2⟩
  by_cases hlt : i < ds.length
  · obtain ⟨d, hd⟩ := get_lt hlt
    have hdr : ds.drop i = d :: ds.drop (i + 1) := by
      rw [List.drop_eq_getElem_cons hlt]
      congr 1
      rw [List.getElem?_eq_getElem hlt] at hd
      exact Option.some.inj hd
    rw [hdr] at q2
    refine .inr ⟨it.go R2 _ B' H' i e2 w2 hlt, fun H3 => ∃ R3 B3 av3 acc3, Ex B1 B3 ∧ Wd R3 B3 (L2.upd Fz Dl (.lst av3)) H3 ∧ Dps M B3 av3 acc3 ∧ lc2Go g tt ti1 g1 tt1 te vs1 (wipeD ρ vs) (ds.drop (i + 1)) acc3 R3 (fun R out => Qd R (.lst out)),
      fun H3 ⟨R3, B3, av3, acc3, z1, z2, z3, z4⟩ => ⟨ds.length - (i + 1), by omega, rfl, hlt, R3, B3, av3, acc3, z1, z2, z3, z4⟩, fun v H3 hy => ?_⟩
    obtain ⟨d', B3, hd', e3, w3, hv⟩ := it.yld R2 _ B' H' i v H3 e2 w2 hlt hy
    rw [hd] at hd'
    cases hd'
    refine ⟨B3, wipeD ρ vs, d, _, w3.ex, sl1.mono (e2.trans e3), hv, q2, fun σ2 ρ2 sb sl2 q3 => ⟨wipe_same (sb.mono hj), ?_⟩⟩
    refine ⟨R2, _, B3, ρ2, _, noX, w3, sl2, q3, fun R4 b H4 B4 e4 w4 q4 => ?_, XL.no⟩
    cases b with
    | true =>
      refine ⟨R4, _, B4, ρ2, _, noX, w4, sl2.mono e4, q4, fun R5 J1 H5 B5 ds1 e5 w5 it1 q5 => ?_, XL.no⟩
      exact lc_inner hj1 w5 (((e2.trans e3).trans e4).trans e5) it1 ((sl2.mono e4).mono e5) (ha.mono ((e3.trans e4).trans e5)) q5 fun R6 B6 H6 av6 acc6 z1 z2 z3 z4 => ⟨R6, B6, av6, acc6, z1, z2, z3, z4⟩
    | false => exact ⟨R4, B4, av, acc, ((e2.trans e3).trans e4), w4, ha.mono (e3.trans e4), q4⟩
  · refine .inl ⟨it.stop R2 _ B' H' i e2 w2 (by omega), ?_⟩
    have hdr : ds.drop i = [] := List.drop_eq_nil_of_le (by omega)
    rw [hdr] at q2
    have w3 := w2.give (p := Dl) (o := .lst av) upd_same (fun _ z => by cases z)
    have hF : cutH (L2.upd Fz Dl (.lst av)) Dl = Fz := by
      funext z
      by_cases hz : z = Dl
      · subst hz; rw [cutH_same]; exact (w1.fz.free hD).symm
      · rw [cutH_ne hz, upd_ne hz]
    rw [hF] at w3
    have hB : B' Dl = none := w2.dis _ _ upd_same
    exact k R2 _ _ _ _ (e1.trans (e2.trans (Ex.new hB))) w3 (.lst upd_same (ha.mono (Ex.new hB))) q2
theorem de_lc2 {iter elt tg1 iter1 : Expr} {ifs ifs1 : List Expr} {scope : Scope} {own : List (Str × Nat)} {vs1 js1 : List Nat} {ti ti1 : DI} {g1 : DG} {tt tt1 : DB} {te : DT} (hc : X.calm = true) (hN : X.N.Nodup) (hi : DIt X W tg iter ti) (ok : BlkOk X.N X.env.scope scope own) (hv : ∀ i ∈ vs1, i ∈ own.map (·.2))
    (hg : ∀ (s : Shared) (H : Hp) (C : Addr) (cl : List (Str × Addr)) (fp : List Addr), DGt (X.blk s H scope (compEnvC scope cl C X.env) fp) js tg g) (ht : ∀ (s : Shared) (H : Hp) (C : Addr) (cl : List (Str × Addr)) (fp : List Addr), PTs (X.blk s H scope (compEnvC scope cl C X.env) fp) ifs (liftB X.md W0 tt))
    (hi1 : ∀ (s : Shared) (H : Hp) (C : Addr) (cl : List (Str × Addr)) (fp : List Addr), DIt (X.blk s H scope (compEnvC scope cl C X.env) fp) W0 tg1 iter1 ti1) (hg1 : ∀ (s : Shared) (H : Hp) (C : Addr) (cl : List (Str × Addr)) (fp : List Addr), DGt (X.blk s H scope (compEnvC scope cl C X.env) fp) js1 tg1 g1)
    (ht1 : ∀ (s : Shared) (H : Hp) (C : Addr) (cl : List (Str × Addr)) (fp : List Addr), PTs (X.blk s H scope (compEnvC scope cl C X.env) fp) ifs1 (liftB X.md W0 tt1)) (he : ∀ (s : Shared) (H : Hp) (C : Addr) (cl : List (Str × Addr)) (fp : List Addr), DE (X.blk s H scope (compEnvC scope cl C X.env) fp) W0 elt te)
    (hj : ∀ i ∈ js, i ∈ own.map (·.2) := by decide) (hj1 : ∀ i ∈ js1, i ∈ vs1 := by decide) (hs : ∀ x, foldedSetIterable iter X.env x = pure x := by intro _; rfl) (hs1 : ∀ env x, foldedSetIterable iter1 env x = pure x := by intro _ _; rfl) :
    DE X W (.ListComp elt [⟨tg, iter, ifs, 0⟩, ⟨tg1, iter1, ifs1, 0⟩] scope pos) (dLc2 ti g tt ti1 g1 tt1 te (own.map (·.2)) vs1) :=
  (pe_lc2 hc hN hi ok hv hg ht hi1 hg1 ht1 he hs hs1).imp fun _ _ _ h => lc2_lift hj hj1 h
end
end DL

set_option Elab.async false
set_option linter.all false
set_option maxRecDepth 100000
set_option maxHeartbeats 1000000
namespace DL
open PySem PySem.W PySem.Calls
section
variable {M : Model} {prog : Program} {w : World} {A : Around} {E : Value → Shared → Prop} {R : Result → Shared → Prop} {hp : Heap} {gs : Array GenState} {dr : Drawn} {tk : Nat} {os : OsState}
variable {nm qn : Str} {C Nc : Addr} {bs bm bmB : List Value} {hd : Bool} {sn : List Str} {sub : List Value} {ab : Bool} {col : Option Bool} {dd : Option Addr} {k0 k1 k2 k3 k5 : Option Value} {B newId initId : String}
theorem xk_check (F : ExcBaseFacts B newId initId bmB) (hT : ∀ Y : String, bm.contains (.type Y) = bmB.contains (.type Y)) {us : List Value} {kw : List (Str × Value)} {Q : Unit → Shared → Prop}
    (hC : hp.get? C = some (excClassObj nm qn C Nc bs bm hd sn sub ab col dd k0 k1 k2 k3 k5 newId)) (hq : Q () ⟨hp, gs, dr, tk, os⟩) :
    wpAny M A (checkBuiltinCall newId ⟨.ref C :: us, kw⟩) Q E ⟨hp, gs, dr, tk, os⟩ := by
  have h1 : (Value.ref C :: bm).contains (.type B) = true := by
    rw [List.contains_cons, hT, F.hasB]; exact Bool.or_true _
  have h2 := F.noStar
  simp only [checkBuiltinCall, F.newKind, F.newSplit, F.newRow]
  repeat (first
    | refine wpAny_loadPart_at hC ?_
    | (refine wpAny_isSubtype_exc hC ?_; rw [h1])
    | refine wpAny_staticBase_exc hC ?_
    | refine wpAny_madeBy_exc hC ?_
    | simp only [bne_self_eq_false, Bool.false_eq_true, if_false] | wp_step)
  exact hq
theorem xk_new (F : ExcBaseFacts B newId initId bmB) (hT : ∀ Y : String, bm.contains (.type Y) = bmB.contains (.type Y)) {us : List Value} {kw : List (Str × Value)}
    (hC : hp.get? C = some (excClassObj nm qn C Nc bs bm hd sn sub ab col dd k0 k1 k2 k3 k5 newId))
    (hq : R (.ok (.ret (.ref (hp.objs.size + 1)))) ⟨(hp.push (kdv_tup us)).push (HandSPX.excO C hp.objs.size), gs, dr, tk, os⟩) (hz : us.length ≤ sizeLine) :
    codeAny (model prog w) A (.builtin newId ⟨.ref C :: us, kw⟩) R ⟨hp, gs, dr, tk, os⟩ := by
  have he := F.ends
  have h1 : (Value.ref C :: bm).contains (.type B) = true := by
    rw [List.contains_cons, hT, F.hasB]; exact Bool.or_true _
  have h2 : (Value.ref C :: bm).contains (.type "AttributeError") = false := by
    rw [List.contains_cons, hT, F.noAttr]; rfl
  have h3 : (Value.ref C :: bm).contains (.type "NameError") = false := by
    rw [List.contains_cons, hT, F.noName]; rfl
  refine codeAny_builtinAt F.entry ?_
  unfold Builtin.«BaseException.__new__»
  refine wpAt_bind ?_
  show wpAt _ _ _ (stack >>= _) _ _ _
  refine wpAt_bind (wpAt_stack fun pp below => wpAt_of_wpAny ?_)
  wp_walk
  refine wpAt_of_wpAny ?_
  rw [F.owner]
  repeat (first
    | with_reducible refine wpAny_madeHere_exc F.canon hC ?_
    | with_reducible refine wpAny_loadPart_at hC ?_
    | (with_reducible refine wpAny_isSubtype_exc hC ?_; first | rw [h1] | rw [h2] | rw [h3])
    | wp_step)
  show R _ _
  rw [Heap.size_push]
  exact hq
theorem xk_type (F : ExcBaseFacts B newId initId bmB) (hT : ∀ Y : String, bm.contains (.type Y) = bmB.contains (.type Y)) {us : List Value} {kw : List (Str × Value)} {fI : Addr} {Q : Fin → Shared → Prop}
    (hC : hp.get? C = some (excClassObj nm qn C Nc bs bm hd sn sub ab col dd k0 k1 k2 k3 k5 newId))
    (hi : Looks (model prog w) hp (typeLookup (.ref C) "__init__") (some (.ref fI))) (hb : ∀ x, Looks (model prog w) hp (bindSpecial (.ref fI) x) (.ref fI, [x])) (hz : us.length ≤ sizeLine)
    (hq : codeAny (model prog w) A (.call (.ref fI) ⟨.ref (hp.objs.size + 1) :: us, kw⟩)
      (fun r s' => match r with | .ok (.ret v) => v = .none ∧ Q (.done (.ret (.ref (hp.objs.size + 1)))) s' | .ok _ => False | .error e => E e s')
      ⟨(hp.push (kdv_tup us)).push (HandSPX.excO C hp.objs.size), gs, dr, tk, os⟩) :
    wpAny (model prog w) A (Builtin.«type.__call__» ⟨.ref C :: us, kw⟩) Q E ⟨hp, gs, dr, tk, os⟩ := by
  repeat (first
    | with_reducible refine wpAny_loadPart_at hC ?_
    | with_reducible refine wpAny_madeBy_exc hC ?_
    | wp_step)
  refine codeAny_call_builtin_code (Code.quiet_builtin _ F.quiet) (xk_check F hT hC ?_)
  refine xk_new F hT hC ?_ hz
  show wpAny _ _ _ _ _ _
  have kp : ∀ b o, hp.get? b = some o → ((hp.push (kdv_tup us)).push (HandSPX.excO C hp.objs.size)).get? b = some o := fun b o e =>
    Heap.get?_push_of_some _ (Heap.get?_push_of_some _ e)
  have c1 := kp _ _ hC
  have g1 : ((hp.push (kdv_tup us)).push (HandSPX.excO C hp.objs.size)).get? (hp.objs.size + 1) = some (HandSPX.excO C hp.objs.size) := by
    heap_get
  have cc : (Value.ref C :: bm).contains (.ref C) = true := by simp
  have i1 := hi.keeps kp
  have b1 := (hb (.ref (hp.objs.size + 1))).keeps kp
  unfold isInstance
  repeat (first
    | with_reducible refine wpAny_loadPart_at g1 ?_
    | (with_reducible refine wpAny_isSubtype_exc c1 ?_; rw [cc])
    | wp_step)
  show wpAny _ _ (typeLookup (.ref C) _) _ _ _
  refine i1.at ?_
  refine wpAny_holding (wpAny_bind (b1.at ?_))
  refine wpAny_bind (wpAny_call (codeAny_mono hq fun r s' z => ?_))
  rcases r with e | (v | _ | _ | _) <;> first | exact z | exact z.elim | skip
  obtain ⟨rfl, z⟩ := z
  first
    | exact wpAny_pure (wpAny_pure z)
    | (wp_walk; exact z)
/-- C(.., f=..), C an exception class of one's own with its own __init__ -/
theorem xk_call (F : ExcBaseFacts B newId initId bmB) (hT : ∀ Y : String, bm.contains (.type Y) = bmB.contains (.type Y)) {us : List Value} {kw : List (Str × Value)} {fI : Addr}
    (hC : hp.get? C = some (excClassObj nm qn C Nc bs bm hd sn sub ab col dd k0 k1 k2 k3 k5 newId))
    (hi : Looks (model prog w) hp (typeLookup (.ref C) "__init__") (some (.ref fI))) (hb : ∀ x, Looks (model prog w) hp (bindSpecial (.ref fI) x) (.ref fI, [x])) (hz : us.length ≤ sizeLine)
    (hq : codeAny (model prog w) (A.under (.builtin "type.__call__" ⟨.ref C :: us, kw⟩)) (.call (.ref fI) ⟨.ref (hp.objs.size + 1) :: us, kw⟩) (InitBack (hp.objs.size + 1) R)
      ⟨(hp.push (kdv_tup us)).push (HandSPX.excO C hp.objs.size), gs, dr, tk, os⟩) :
    codeAny (model prog w) A (.call (.ref C) ⟨us, kw⟩) R ⟨hp, gs, dr, tk, os⟩ := by
  have f1 := tc_lookup
  have f2 := tc_bind (.ref C)
  have ty : (⟨hp, gs, dr, tk, os⟩ : Shared).TypeIs (.ref C) "type" := ⟨_, hC, rfl⟩
  refine codeAny_of_tree ?_
  show wpAny _ _ (callAny (.ref C) _) _ _ _
  repeat (any_goals (first
    | assumption
    | with_reducible refine wpAny_loadPart_at hC ?_
    | wp_step))
  refine ⟨rfl, ?_⟩
  refine codeAny_call_builtin_at (Code.quiet_builtin _ (by decide +kernel)) entry_typeCall (wpAny_check_type_call_sub hC (xk_type F hT hC hi hb hz ?_))
  refine codeAny_mono hq fun r s' z => ?_
  rcases r with e | (v | _ | _ | _) <;> exact z
end
end DL

set_option Elab.async false
set_option linter.all false
set_option maxRecDepth 100000
set_option maxHeartbeats 1000000
namespace DL
open PySem PySem.W PySem.Calls
/-- what the text of such an __init__ is -/
structure XcS (st : Stmt) (fld : Str) : Prop where
  body : ∃ (p0 p1 p2 p3 p4 p5 q0 q1 q2 q3 : Pos) (msg : Str) (j : Nat), (p2.endLine == p4.line) = true ∧ L2.defBody st = [.Expr (.Call (.Attribute (.Call (.Name "super" p0) [] [] p1) "__init__" p2) [.Constant (.str msg) j p3] [] p4) p5, .Assign [.Attribute (.Name "self" q0) fld q1] (.Name fld q2) q3]
  kind : (L2.defScope st).kind = .function
  co : (L2.defScope st).isCoroutine = false
  gen : (L2.defScope st).isGenerator = false
  cell : ∀ y ∈ (L2.defScope st).names, y.2 ≠ .cell
  sup : (L2.defScope st).names.lookup ("super" : Str) = some .globalImplicit
  cls : (L2.defScope st).names.lookup ("__class__" : Str) = some .free
  slf : (L2.defScope st).names.lookup ("self" : Str) = some .local
  par : (L2.defScope st).names.lookup fld = some .local
  ne : fld ≠ "self"
  dbg : (fld == ("__debug__" : Str)) = false
  hd : ∃ ar : Arg, ((L2.defArgs st).posonlyargs ++ (L2.defArgs st).args).head? = some ar ∧ ar.arg = "self"
  bpos : ∀ (qn : Str) (kV doc pm : Value) (an : Option Addr) (cdv ct : Value) (cc : Addr) (a u : Value), bindArgs (ksFn "__init__" qn (L2.defArgs st) (L2.defBody st) (L2.defScope st) .none kV doc pm an cdv ct cc) ⟨[a, u], []⟩ = pure [(("self" : Str), a), (fld, u)]
  bkw : ∀ (qn : Str) (kV doc pm : Value) (an : Option Addr) (cdv ct : Value) (cc : Addr) (a u : Value), bindArgs (ksFn "__init__" qn (L2.defArgs st) (L2.defBody st) (L2.defScope st) .none kV doc pm an cdv ct cc) ⟨[a], [(fld, u)]⟩ = pure [(("self" : Str), a), (fld, u)]
/-- what the heap's written part says of the class -/
structure XcK (prog : Program) (K : Frag) (st : Stmt) (fld : Str) (C fI : Addr) : Prop where
  base : ∃ (B newId initId : String) (bmB : List Value), ExcBaseFacts B newId initId bmB ∧ KxsFacts B initId ∧ StoreFacts B bmB "object.__setattr__" "object" ∧ excInitIn K C bmB newId = true ∧ excOver K C bmB = true ∧
    ks_superIn K C C "__init__" = some (some (.builtin initId)) ∧ subIn K (.ref C) (.type B) = some true
  hd : hasDictIn K C = true
  sa : findIn K (.ref C) "__setattr__" = some (some (.builtin "object.__setattr__"))
  own : mroIn K C (.ref C) = some true
  noat : findIn K (.ref C) fld = some none
  opq : nsIn K cStatics "thirdparty.any" = some none
  kp : keepIn K (.ref C) = true
  iC : findIn K (.ref C) "__init__" = some (some (.ref fI))
  tI : typeIn K (.ref fI) = some (.type "function")
  code : ∃ (oc : Value) (od : Option Addr) (osl : Array (Option Value)) (qn : Str) (kV doc pm : Value) (an : Option Addr) (cda : Addr) (ct : Value) (cc : Addr), K.lookup fI = some ⟨oc, od, .func (ksFn "__init__" qn (L2.defArgs st) (L2.defBody st) (L2.defScope st) .none kV doc pm an (.ref cda) ct cc), osl⟩ ∧
    codeIn K (.ref cda) qn = true ∧ (∃ (ccl : Value) (cdd : Option Addr) (vs : Array Value) (ccs : Array (Option Value)) (file : Str) (tf : Tok), K.lookup cda = some ⟨ccl, cdd, .fields vs, ccs⟩ ∧ vs[2]? = some (.str file tf) ∧ ((prog.main.file : Str) == file) = true) ∧
    ∃ (cl : Value) (cld : Option Addr) (csl : Array (Option Value)), K.lookup cc = some ⟨cl, cld, .cell (some (.ref C)), csl⟩
  top : (prog.main.scope.names.lookup ("super" : Str)).isSome = false
section
variable {M : Model} {prog : Program} {w : World} {A : Around} {E : Value → Shared → Prop} {R : Result → Shared → Prop} {hp : Heap} {gs : Array GenState} {dr : Drawn} {tk : Nat} {os : OsState} {K : Frag} {C : Addr} {B newId initId : String} {bmB : List Value}
abbrev excV (C t1 : Addr) (d : Option Addr) : Obj := { cls := .ref C, dict := d, data := .fields #[.ref t1, .none, .none, .none, .bool false, .none] }
/-- self.name = v: the first field -/
theorem xk_store {x t1 : Addr} {name : Str} {tx : Tok} {v : Value} (SF : StoreFacts B bmB "object.__setattr__" "object") (X : K.In hp) (hx : hp.get? x = some (excV C t1 none)) (ho : excOver K C bmB = true) (hh : hasDictIn K C = true) (hn : findIn K (.ref C) name = some none)
    (hq : ∀ h' tk' dx, (∀ b o, b ≠ x → hp.get? b = some o → h'.get? b = some o) → hp.objs.size ≤ dx → dx ≠ x → h'.get? x = some (excV C t1 (some dx)) →
      h'.Ns1 dx (fun y => if y = name then some v else none) → R (.ok (.ret .none)) ⟨h', gs, dr, tk', os⟩) :
    codeAny (model prog w) A (.call (.builtin "object.__setattr__") ⟨[.ref x, .str name tx, v], []⟩) R ⟨hp, gs, dr, tk, os⟩ := by
  have I : InstAt hp x (excV C t1 none) C none := ⟨hx, rfl, rfl, trivial⟩
  refine osa_openX (s := ⟨hp, gs, dr, tk, os⟩) (r := none) SF X I ho (by unfold takerIn; rw [hn]; rfl) fun b => ?_
  have hxs : x ≠ hp.objs.size := Nat.ne_of_lt (Heap.lt_size hx)
  obtain ⟨cd, hc, hdt⟩ : ∃ cd, clsIn K C = some cd ∧ cd.hasDict = true := by
    unfold hasDictIn at hh
    cases q : clsIn K C with
    | none => rw [q] at hh; cases hh
    | some cd => rw [q] at hh; exact ⟨cd, rfl, hh⟩
  have hcl : Looks (model prog w) hp (classData C) cd := looks_clsIn X hc
  obtain ⟨n1, n2, n3, n4, n5, n6, n7, n8, n9, n10, n11⟩ := cd
  dsimp only at hdt
  subst hdt
  show wpAny (model prog w) A.in1 (Builtin.ObjectAttr.storeInOwnDict (.ref x) (.ref C) (.str name tx) name v b) _ _ _
  unfold Builtin.ObjectAttr.storeInOwnDict Builtin.ObjectAttr.ownDictForStores
  repeat (first
    | with_reducible refine HandSPX.store_in_new ?_ ?_
    | with_reducible refine wpAny_loadPart_at hx ?_
    | with_reducible refine hcl.at ?_
    | wp_step)
  · exact ⟨_, #[], _, (Heap.get?_update_ne _ _ _ _ hxs.symm).trans (Heap.get?_push_at rfl rfl), rfl, fun e he => absurd he (by simp), fun _ => rfl⟩
  · intro h' tk' hn' hs
    have hx1 : (hp.push { cls := .type "dict", data := .dict #[] }).get? x = some (excV C t1 none) := Heap.get?_push_of_some _ hx
    refine hq h' tk' hp.objs.size (fun b o hb ho => ?_) (Nat.le_refl _) hxs.symm ?_ hn'
    · exact (hs.2 b (Nat.ne_of_lt (Heap.lt_size ho))).trans ((Heap.get?_update_ne _ _ _ _ hb).trans (Heap.get?_push_of_some _ ho))
    · exact (hs.2 x hxs).trans (Heap.get?_update_self _ hx1 rfl)
end
end DL

set_option Elab.async false
set_option linter.all false
set_option maxRecDepth 100000
set_option maxHeartbeats 1000000
namespace DL
open PySem PySem.W PySem.Calls
theorem ev_meth {o : Expr} {name : Str} {apos pos : Pos} {e : Expr} {env : PySem.Env} (hpl : (apos.endLine == pos.line) = true) (he : starEach [e] env = [(false, eval e env)]) :
    eval (.Call (.Attribute o name apos) [e] [] pos) env = (do
      let ov ← attributeBase o name env (eval o env)
      standAt apos.atName
      let (f, first) ← holding [ov] (getMethod ov name (do return (← importBound o env).getD true))
      callWith pos f first (backTo pos (starEach [e] env)) []) := by
  rw [arm_eval_Call]
  have h1 : methodCallForm ([e].length + ([] : List Keyword).length) (backTo pos (starEach [e] env)) (backToKw pos (keywordEach [] env)) = true := by rw [he]; rfl
  unfold methodCall
  rw [h1]
  unfold methodCallPos
  simp only [hpl, Bool.not_true, Bool.false_or, if_true]
  rfl
section
variable {prog : Program} {w : World} {A : Around} {E : Value → Shared → Prop} {R : Result → Shared → Prop} {hp : Heap} {gs : Array GenState} {dr : Drawn} {tk : Nat} {os : OsState} {K : Frag} {C fI : Addr} {B newId initId : String} {bmB : List Value} {st : Stmt} {fld : Str} {mg : Str → Option Value}
/-- the bound built-in __init__, called -/
theorem xk_bw (FB : ExcBaseFacts B newId initId bmB) {e t0 u : Addr} {us : List Value} {Q : Value → Shared → Prop} (X : K.In hp) (q : excInitIn K C bmB newId = true) (he : hp.get? e = some (excV C t0 none)) (hu : hp.get? u = some (kxs_mw initId e)) (hz : us.length ≤ sizeLine)
    (hq : ∀ h' t1, (∀ b o, b ≠ e → hp.get? b = some o → h'.get? b = some o) → h'.get? e = some (excV C t1 none) → hp.objs.size ≤ h'.objs.size → Q .none ⟨h', gs, dr, tk, os⟩) :
    wpAny (model prog w) A (call (.ref u) us) Q E ⟨hp, gs, dr, tk, os⟩ := by
  obtain ⟨nm, N', qn, bs, bm, hdct, sn, sub, ab, col, dd, k0, k1, k2, k3, k5, hC, hT⟩ := excInit_of X q
  refine wpAny_call (codeAny_of_tree ?_)
  show wpAny _ A.in1 (callAny (.ref u) ⟨us, []⟩) _ _ _
  simp only [callAny]
  refine wpAny_bind (wpAny_load hu ?_)
  simp only [kxs_mw, show (Value.type "method-wrapper" == Value.type "method" || Value.type "method-wrapper" == Value.type "builtin_function_or_method"
    || Value.type "method-wrapper" == Value.type "method-wrapper") = true by decide, if_true]
  refine KFB.if_so (by decide) ?_
  refine wpAny_bind (check_bound_init FB.toExcCallFacts hC he rfl ?_)
  refine wpAny_bind (wpAny_pure (wpAny_pure ?_))
  refine ⟨plainId_quiet FB.init.plain _, codeAny_builtin FB.initEntry ?_⟩
  refine exc_init_tree (cls := .ref C) (t0 := t0) (dv := none) (c2 := .none) (c3 := .none) (b4 := .bool false) he hz fun h' k1 e1 t1 => hq h' hp.objs.size k1 e1 (Nat.le_of_lt (Heap.lt_size t1))
theorem xk_init (S : XcS st fld) (T : XcK prog K st fld C fI) {e t0 : Addr} {u : Value} {ar : Args} (X : K.In hp) (nol : hp.NoLimit) (gl : hp.Ns mainGlobals mg) (hsu : mg "super" = none) (bl : ∃ mb, hp.Ns builtinsNs mb ∧ ∀ x : Str, x ≠ "__name__" → mb x = bootBuiltins x)
    (room : A.depth < recursionLimit) (he : hp.get? e = some (excV C t0 none)) (hke : K.lookup e = none) (har : ar = ⟨[.ref e, u], []⟩ ∨ ar = ⟨[.ref e], [(fld, u)]⟩)
    (hq : ∀ h' tk' dx t1, (∀ b o, b ≠ e → hp.get? b = some o → h'.get? b = some o) → hp.objs.size ≤ dx → dx ≠ e → h'.get? e = some (excV C t1 (some dx)) →
      h'.Ns1 dx (fun y => if y = fld then some u else none) → R (.ok (.ret .none)) ⟨h', gs, dr, tk', os⟩) :
    codeAny (model prog w) A (.call (.ref fI) ar) R ⟨hp, gs, dr, tk, os⟩ := by
  obtain ⟨oc, od, osl, qn, kV, doc, pm, an, cda, ct, cc, lk, hcd, ⟨ccl, cdd, vs, ccs, file, tf, lcode, hvs, hfile⟩, cl, cld, csl, lcell⟩ := T.code
  obtain ⟨B, newId, initId, bmB, FB, KF, SF, hin, hov, hsi, hsb⟩ := T.base
  obtain ⟨p0, p1, p2, p3, p4, p5, q0, q1, q2, q3, msg, j, hpl, hb⟩ := S.body
  obtain ⟨arg, har0, har1⟩ := S.hd
  obtain ⟨mb, bns, bbt⟩ := bl
  have hbind : BindsTo ⟨hp, gs, dr, tk, os⟩ (ksFn "__init__" qn (L2.defArgs st) (L2.defBody st) (L2.defScope st) .none kV doc pm an (.ref cda) ct cc) ar [(("self" : Str), .ref e), (fld, u)] := by
    rcases har with rfl | rfl
    · exact .of_eq (S.bpos ..)
    · exact .of_eq (S.bkw ..)
  refine ks_codeAny_call_defAt (body := L2.defBody st) room (X _ _ lk) rfl nol (codeRec_of X hcd) rfl hbind S.cell (fun y hy => ?_) (fun h1 ns1 k1 => ?_) S.co S.gen S.kind
  · rcases List.mem_cons.mp hy with rfl | hy
    · exact S.slf
    · rcases List.mem_cons.mp hy with rfl | hy
      · exact S.par
      · cases hy
  have X1 : K.In h1 := X.keeps k1
  have he1 := k1 _ _ he
  rw [hb]
  have hkc : (L2.defScope st).names.lookup ("__class__" : Str) = some .free := S.cls
  obtain ⟨cdD, hcC⟩ : ∃ cdD, clsIn K C = some cdD := by
    cases q : clsIn K C with
    | none => have z := T.own; unfold mroIn at z; rw [q] at z; cases z
    | some cd => exact ⟨cd, rfl⟩
  obtain ⟨oD, hD1, hD2⟩ : ∃ oD, h1.get? C = some oD ∧ oD.data = .cls cdD := by
    unfold clsIn at hcC
    split at hcC
    · rename_i ho; cases hcC; exact ⟨_, X1 _ _ ho, rfl⟩
    · cases hcC
  have hns : ∀ y : Str, y = "self" → (fun x => ([(("self" : Str), Value.ref e), (fld, u)] : List (Str × Value)).reverse.lookup x) y = some (.ref e) := by
    rintro y rfl
    have n : (("self" : Str) == fld) = false := by simpa using Ne.symm S.ne
    show (match ("self" : Str) == fld with | true => some u | false => _) = _
    rw [n]; rfl
  refine ks_wpAt_execs_cons (ks_wpAt_Expr_any (ks_wpAt_MethodCall ?_ (ev_meth hpl rfl)) (by show interactive _ = false; unfold interactive; rw [show (callEnv (ksFn "__init__" qn (L2.defArgs st) _ (L2.defScope st) .none kV doc pm an (.ref cda) ct cc) hp.objs.size fI).scope.kind = ScopeKind.function from S.kind]; rfl))
  refine ks_wpAt_super_base (ar := arg) S.sup S.cls (by decide) rfl (X1 _ _ lk) rfl har0 rfl (X1 _ _ lcode) rfl hvs hfile T.top ?_
  refine ks_loadName_global S.kind S.sup (loadGlobal_builtin (gl.keeps k1) hsu (bns.keeps k1) ((bbt _ (by decide)).trans (by decide +kernel)) ⟨rfl, ?_⟩)
  refine wpAny_loadName_free S.kind S.cls rfl ⟨_, X1 _ _ lcell, rfl⟩ ?_
  refine wpAny_loadName_local S.kind (by rw [har1]; exact S.slf) ns1 (hns _ har1) ?_
  refine ks_wpAny_isType_cls hD1 hD2 ⟨rfl, ?_⟩
  refine ks_wpAny_call_super hD1 hD2 he1 rfl (fun c z => by cases z) (looks_mroIn X1 T.own) fun h2 s2 k2 => ?_
  have X2 : K.In h2 := X1.keeps k2
  have he2 := k2 _ _ he1
  have I2 : InstAt h2 e (excV C t0 none) C none := ⟨he2, rfl, rfl, trivial⟩
  have hm : alongIn K "__init__" ((cdD.mro.dropWhile (· != .ref C)).drop 1) = some (some (.builtin initId)) := by
    have z := hsi
    unfold ks_superIn at z
    rw [hcC] at z
    exact z
  refine kxs_getMethod KF s2 (looks_opaque X2 T.opq) (l₀ := cdD.mro) (fun A Q E s k q => wpAny_bind ((looks_clsIn X2 hcC) A _ E s k (wpAny_pure q))) rfl X2 hm (I2.type.andThen (looks_subIn X2 hsb)) (ks_ne X2 I2 hcC) rfl ?_
  have hm2 : (h2.push (kxs_mw initId e)).get? h2.objs.size = some (kxs_mw initId e) := Heap.get?_push_at rfl rfl
  have k3 : ∀ b o, h2.get? b = some o → (h2.push (kxs_mw initId e)).get? b = some o := fun b o z => Heap.get?_push_of_some _ z
  refine kxs_callWith (i := initId) (x := e) rfl (evalArgs_plain (spliced_cons (wpAny_Constant_str (k := j) (pos := p3) (spliced_nil ⟨hm2, ?_⟩))))
  have kA : ∀ b o, hp.get? b = some o → (h2.push (kxs_mw initId e)).get? b = some o := fun b o z => k3 b o (k2 b o (k1 b o z))
  refine xk_bw FB (X.keeps kA) hin (kA _ _ he) hm2 (by show 1 ≤ sizeLine; rw [sizeLine_eq]; omega) fun h4 t1 k4 e4 z4 => ?_
  have kB : ∀ b o, b ≠ e → hp.get? b = some o → h4.get? b = some o := fun b o n z => k4 b o n (kA b o z)
  have neL : hp.objs.size ≠ e := fun z => by
    have := Heap.lt_size he
    rw [z] at this
    exact absurd this (Nat.lt_irrefl _)
  have ns4 : h4.Ns hp.objs.size (fun x => ([(("self" : Str), Value.ref e), (fld, u)] : List (Str × Value)).reverse.lookup x) := ns1.at fun o z => k4 _ o neL (k3 _ o (k2 _ o z))
  have zz : hp.objs.size ≤ h4.objs.size := by
    have a1 : hp.objs.size < h1.objs.size := by
      obtain ⟨o, _, _, z, _⟩ := ns1
      exact Heap.lt_size z
    have a2 : h1.objs.size < h2.objs.size := Heap.lt_size s2
    have a3 : h2.objs.size < (h2.push (kxs_mw initId e)).objs.size := Heap.lt_size hm2
    have a4 : (h2.push (kxs_mw initId e)).objs.size ≤ h4.objs.size := z4
    omega
  have hfl : ([(("self" : Str), Value.ref e), (fld, u)] : List (Str × Value)).reverse.lookup fld = some u := by
    show (match fld == fld with | true => some u | false => _) = _
    rw [beq_self_eq_true]
  refine PySem.wpAt_of_wpAny (wpAny_execs_cons (plainObj_wpAny_Assign_Attribute ?_ rfl))
  refine wpAny_Name (wpAny_loadName_local S.kind S.par ns4 hfl ?_) S.dbg
  refine wpAny_Name (wpAny_loadName_local S.kind S.slf ns4 (hns _ rfl) ?_)
  have X4 : K.In h4 := fun a o z => kB a o (fun q => by rw [q, hke] at z; cases z) (X a o z)
  refine set_plain (ox := excV C t1 none) (od := none) X4 ⟨e4, rfl, rfl, trivial⟩ T.sa ?_
  refine xk_store SF X4 e4 hov T.hd T.noat fun h5 tk5 dx k5 z5 n5 e5 ns5 => ?_
  refine wpAny_execs_nil ?_
  exact hq h5 _ dx t1 (fun b o n z => k5 b o n (kB b o n z)) (Nat.le_trans zz z5) n5 e5 ns5
end
end DL

set_option Elab.async false
set_option linter.all false
set_option maxRecDepth 100000
set_option maxHeartbeats 1000000
namespace DL
open PySem L2
section
variable {X : Cx} {W : WX} {a b e : Expr} {es : List Expr} {ta tb t : DT} {tr : DA} {pos p : Pos} {st : Stmt} {fld : Str} {C fI : Addr}
theorem un_two {H : Hp} {hp h' : Heap} {fs : List Addr} {q dx : Addr} {oa od : HO} (kk : ∀ b o, hp.get? b = some o → h'.get? b = some o) (ha : hp.objs.size ≤ q) (hd : hp.objs.size ≤ dx) (na : H q = none) (nd : H dx = none) : Un fs [] H (upd (upd H dx od) q oa) hp h' where
  keep := fun b o z _ _ _ => kk b o z
  slot := fun b o z _ _ _ => ⟨o.slots, kk b o z⟩
  free := fun b o z n _ => by
    have z1 : b < hp.objs.size := Heap.lt_size z
    rw [upd_ne (Nat.ne_of_lt (Nat.lt_of_lt_of_le z1 ha)), upd_ne (Nat.ne_of_lt (Nat.lt_of_lt_of_le z1 hd))]; exact n
  there := fun b o z _ => ⟨o, kk b o z⟩
  tups := fun b xs z => by rw [upd_ne (ne_of_none z na), upd_ne (ne_of_none z nd)]; exact z
  frzs := fun b o v z => by rw [upd_ne (ne_of_none z na), upd_ne (ne_of_none z nd)]; exact z
  tbls := fun b ps z => ⟨#[], by rw [upd_ne (ne_of_none z na), upd_ne (ne_of_none z nd), z]; simp⟩
/-- an exception made: its dict, then itself -/
def rMk (C : Addr) (fld : Str) (v : V) (H : Hp) (Q : VK) : Prop := ∀ q dx, H q = none → H dx = none → dx ≠ q → Q (.ref q) (upd (upd H dx (exd dx [(fld, v)])) q (exo q C (some dx)))
theorem mk_run {k : Nat} (S : XcS st fld) (T : XcK X.prog X.K st fld C fI) (hsu : X.mg "super" = none) (hr : Room (k + 1) X.A) {pins : List (Addr × Obj)} {σ : L2.St} {H : Hp} {s : Shared} {Q : VK} {v : V} {u : Value} {us : List Value} {kw : List (Str × Value)}
    (hu : (us = [u] ∧ kw = []) ∨ (us = [] ∧ kw = [(fld, u)])) (I : Inv X pins σ H s) (r : RelV v u) (h : rMk C fld v H Q) : wpAny (model X.prog X.w) X.A (call (.ref C) us kw) (EP X pins σ Q) X.xe s := by
  obtain ⟨B, newId, initId, bmB, FB, KF, SF, hin, hov, hsi, hsb⟩ := T.base
  obtain ⟨nm, Nc, qn, bs, bm, hd, sn, sub, ab, col, dd, k0, k1, k2, k3, k5, hC, hT⟩ := PySem.W.excInit_of I.kIn hin
  obtain ⟨hp, gs, dr, tk, os⟩ := s
  have kk : ∀ b o, hp.get? b = some o → ((hp.push (PySem.W.kdv_tup us)).push (PySem.HandSPX.excO C hp.objs.size)).get? b = some o := fun b o z => Heap.get?_push_of_some _ (Heap.get?_push_of_some _ z)
  have hg : ((hp.push (PySem.W.kdv_tup us)).push (PySem.HandSPX.excO C hp.objs.size)).get? (hp.objs.size + 1) = some (PySem.HandSPX.excO C hp.objs.size) := by heap_get
  have sz : ((hp.push (PySem.W.kdv_tup us)).push (PySem.HandSPX.excO C hp.objs.size)).objs.size = hp.objs.size + 2 := by rw [Heap.size_push, Heap.size_push]
  have I2 : Inv X pins σ H ⟨(hp.push (PySem.W.kdv_tup us)).push (PySem.HandSPX.excO C hp.objs.size), gs, dr, tk, os⟩ := I.kept (t' := tk) kk
  obtain ⟨mb, h1, h2⟩ := I2.mod.blt
  refine wpAny_call (xk_call FB hT hC (PySem.W.looks_findIn I.kIn T.iC) (fun x => PySem.W.bind_fn I.kIn x T.tI) (by rcases hu with ⟨rfl, _⟩ | ⟨rfl, _⟩ <;> simp [sizeLine_eq]) ?_)
  refine xk_init S T I2.kIn (I2.mod.nolimit.keeps I2.bk) (I2.mod.glob.keeps I2.bk) hsu ⟨mb, h1.keeps I2.bk, h2⟩ (hr.make C us kw).depth hg ?_ (u := u) ?_ fun h' tk' dx t1 k z ne he ns => ?_
  · cases q : X.K.lookup (hp.objs.size + 1) with
    | none => rfl
    | some o => exact absurd (Heap.lt_size (I.kIn _ _ q)) (by show ¬ (hp.objs.size + 1 < hp.objs.size); omega)
  · rcases hu with ⟨rfl, rfl⟩ | ⟨rfl, rfl⟩
    · exact .inl rfl
    · exact .inr rfl
  · have kf : ∀ b o, hp.get? b = some o → h'.get? b = some o := fun b o q => k b o (Nat.ne_of_lt (Nat.lt_succ_of_lt (Heap.lt_size q))) (kk b o q)
    have nq : H (hp.objs.size + 1) = none := I.hok.fresh (by show hp.objs.size ≤ hp.objs.size + 1; omega)
    have zd : hp.objs.size ≤ dx := Nat.le_trans (by rw [sz]; exact Nat.le_add_right _ _) z
    have nd : H dx = none := I.hok.fresh zd
    have hok : HOk X.prog X.w (upd (upd H dx (exd dx [(fld, v)])) (hp.objs.size + 1) (exo (hp.objs.size + 1) C (some dx))) h' := fun b o q => by
      by_cases hb : b = hp.objs.size + 1
      · subst hb; rw [upd_same] at q; cases q; exact exo_ok he
      · rw [upd_ne hb] at q
        by_cases hd : b = dx
        · subst hd; rw [upd_same] at q; cases q
          exact exd_ok ns (relO_put (fs := []) r fun g => True.intro)
        · rw [upd_ne hd] at q
          exact (I.hok b o q).stay (fun c w _ y => kf c w y) (fun c y => by rw [upd_ne (ne_of_none y nq), upd_ne (ne_of_none y nd)]; exact y) fun c xs y => by rw [upd_ne (ne_of_none y nq), upd_ne (ne_of_none y nd)]; exact y
    exact ⟨rfl, .ref _, _, I.un (t' := tk') (un_two kf (by show hp.objs.size ≤ hp.objs.size + 1; omega) zd nq nd) hok, rfl, h _ dx nq nd ne⟩
end
end DL
namespace DL
open PySem L2
section
variable {X : Cx} {W : WX} {a b e : Expr} {es : List Expr} {ta tb t : DT} {tr : DA} {pos p : Pos} {st : Stmt} {fld : Str} {C fI : Addr}
def tMk (C : Addr) (fld : Str) (te : TE) : TE := fun σ H Q => te σ H fun v H1 => rMk C fld v H1 Q
theorem pe_mkP {k : Nat} {x : Str} {te : TE} (S : XcS st fld) (T : XcK X.prog X.K st fld C fI) (hsu : X.mg "super" = none) (hr : Room (k + 1) X.A) (hg : Gl X x) (hm : X.mg x = some (.ref C)) (he : PE X e te) (hdb : (x == ("__debug__" : Str)) = false := by decide)
    (h1 : starEach [e] X.env = (false, eval e X.env) :: starEach [] X.env := by rfl) : PE X (.Call (.Name x p) [e] [] pos) (tMk C fld te) :=
  ⟨fun pins s σ H Q I h => wpAny_Call_Name_kw (ld_glob I hg hm (PySem.W.callWith_K (h₀ := X.base) I.ok.mod.kin T.kp (by
    rw [h1]
    refine Calls.spliced_cons (thn (he.run pins s σ H _ I h) fun u s1 ⟨v, H1, I1, r, q⟩ => Calls.spliced_nil ⟨I1.kIn, ?_⟩)
    exact mk_run S T hsu hr (.inl ⟨rfl, rfl⟩) I1 r q) h1 rfl) hdb)⟩
theorem pe_mkK {k : Nat} {x : Str} {te : TE} {pk : Pos} (S : XcS st fld) (T : XcK X.prog X.K st fld C fI) (hsu : X.mg "super" = none) (hr : Room (k + 1) X.A) (hg : Gl X x) (hm : X.mg x = some (.ref C)) (he : PE X e te) (hdb : (x == ("__debug__" : Str)) = false := by decide) :
    PE X (.Call (.Name x p) [] [⟨some fld, e, pk⟩] pos) (tMk C fld te) :=
  ⟨fun pins s σ H Q I h => wpAny_Call_Name_kw (ld_glob I hg hm (PySem.W.callWith_KW0 (h₀ := X.base) I.ok.mod.kin T.kp rfl (by
    show wpAny _ _ (evalAll [do let v ← eval e X.env; standAt pos; pure v]) _ _ _
    refine wpAny_bind (wpAny_bind (thn (he.run pins s σ H _ I h) fun u s1 ⟨v, H1, I1, r, q⟩ => wpAny_bind (wpAny_standAt (wpAny_pure ?_))))
    refine wpAny_bind (wpAny_holding (wpAny_pure (wpAny_pure ⟨I1.kIn, ?_⟩)))
    exact mk_run S T hsu hr (.inr ⟨rfl, rfl⟩) I1 r q)) hdb)⟩
def dMk (c fld : Str) (te : DT) : DT := fun R ρ Q E => te R ρ (fun R d => Q R (.exc c [(fld, d)])) E
theorem mk_lift {M : Md} {x : Str} (hm : M.mg x = some (.ref C)) {σ : L2.St} {H : Hp} {Q : VK} (h : lift M W (dMk x fld t) σ H Q) : tMk C fld (lift M W t) σ H Q := by
  obtain ⟨R, Fz, B, ρ, Qd, E, w, sl, q, k, xl⟩ := h
  refine ⟨R, Fz, B, ρ, _, E, w, sl, q, fun R v H1 B1 d e1 w1 h1 q1 => ?_, xl⟩
  intro z dx nz nd ne
  have n2 : upd H1 dx (exd dx [(fld, v)]) z = none := by rw [upd_ne (Ne.symm ne)]; exact nz
  have w2 := w1.new (o := exd dx [(fld, v)]) nd
  have w3 := w2.new (o := exo z C (some dx)) n2
  have ex : Ex B1 (upd (upd B1 dx (exd dx [(fld, v)])) z (exo z C (some dx))) := (Ex.new (w1.free nd)).trans (Ex.new (w2.free n2))
  refine k R _ _ _ _ (e1.trans ex) w3 (.exc (dx := dx) (vs := [(fld, v)]) hm upd_same ?_ (.cons (h1.mono ex) .nil)) q1
  rw [upd_ne ne]; exact upd_same
/-- C(v), C(f=v) -/
structure XcD (P : Program) (K : PySem.W.Frag) (mg : Str → Option Value) (x fld : Str) : Prop where
  ex : ∃ (st : Stmt) (C fI : Addr), XcS st fld ∧ XcK P K st fld C fI ∧ mg x = some (.ref C)
theorem de_mkP {k : Nat} {x : Str} (T : XcD X.prog X.K X.mg x fld) (hsu : X.mg "super" = none) (hr : Room (k + 1) X.A) (hg : Gl X x) (he : DE X W e t) (hdb : (x == ("__debug__" : Str)) = false := by decide)
    (h1 : starEach [e] X.env = (false, eval e X.env) :: starEach [] X.env := by rfl) : DE X W (.Call (.Name x p) [e] [] pos) (dMk x fld t) :=
  let ⟨_, _, _, S, T, hm⟩ := T.ex
  (pe_mkP S T hsu hr hg hm he hdb h1).imp fun _ _ _ h => mk_lift hm h
theorem de_mkK {k : Nat} {x : Str} {pk : Pos} (T : XcD X.prog X.K X.mg x fld) (hsu : X.mg "super" = none) (hr : Room (k + 1) X.A) (hg : Gl X x) (he : DE X W e t) (hdb : (x == ("__debug__" : Str)) = false := by decide) :
    DE X W (.Call (.Name x p) [] [⟨some fld, e, pk⟩] pos) (dMk x fld t) :=
  let ⟨_, _, _, S, T, hm⟩ := T.ex
  (pe_mkK S T hsu hr hg hm he hdb).imp fun _ _ _ h => mk_lift hm h
end
end DL

set_option Elab.async false
set_option linter.all false
set_option maxRecDepth 100000
set_option maxHeartbeats 1000000
namespace DL
open PySem L2
/-- a class as a value of the text -/
def clsU (mg : Str → Option Value) : D → Value → Prop
  | .cls c, u => mg c = some u ∧ ∃ C, u = .ref C
  | .ty T, u => u = .type T
  | _, _ => False
/-- what isinstance asks of an exception's class -/
structure KitE (K : PySem.W.Frag) (C : Addr) : Prop where
  cl : (PySem.W.clsIn K C).isSome = true
  ga : PySem.W.findIn K (.ref C) "__getattribute__" = some (some (.builtin "BaseException.__getattribute__"))
  gt : PySem.W.findIn K (.ref C) "__getattr__" = some none
  sub : PySem.W.subIn K (.ref C) (.type "BaseException") = some true
  kc : PySem.W.findIn K (.ref C) "__class__" = some (some (.builtin "object.__class__"))
  sp : PySem.W.specialIn K (.builtin "object.__class__") "__get__" = some (some (.builtin "getset_descriptor.__get__"))
  tk : PySem.W.takesIn K (.builtin "object.__class__") = some true
  ob : PySem.W.mroIn K C (.type "object") = some true
  hd : PySem.W.hasDictIn K C = true
/-- S: which class is under which -/
def SubK (K : PySem.W.Frag) (mg : Str → Option Value) (S : Str → D → Option Bool) : Prop := ∀ (c : Str) (k : D) (b : Bool), S c k = some b → ∃ (C : Addr) (u : Value), mg c = some (.ref C) ∧ KitE K C ∧ clsU mg k u ∧ PySem.W.kitOne K (.ref C) u = some b
def fIsiE (S : Str → D → Option Bool) : FC
  | [.exc c _, .tup ks], Q => ks ≠ [] ∧ ∃ bs : List Bool, ks.map (S c) = bs.map some ∧ Q (.bl (bs.any id))
  | [.exc c _, .cls k], Q => ∃ b, S c (.cls k) = some b ∧ Q (.bl b)
  | [.exc c _, .ty k], Q => ∃ b, S c (.ty k) = some b ∧ Q (.bl b)
  | _, _ => False
section
variable {X : Cx} {W : WX} {a b e : Expr} {es : List Expr} {ta tb t : DT} {tr : DA} {pos p : Pos}
theorem exc_at {pins : List (Addr × Obj)} {σ : L2.St} {H : Hp} {s : Shared} {C q dx : Addr} {vs : List (Str × V)} (I : Inv X pins σ H s) (ha : H q = some (exo q C (some dx))) (hd : H dx = some (exd dx vs)) :
    ∃ (oe od : Obj) (mA : Str → Option Value), PySem.W.InstAt s.heap q oe C (some od) ∧ s.heap.get? dx = some od ∧ (∀ n, PySem.W.lookIn n od = some (mA n)) ∧ ∀ f, RelO (vs.lookup f) (mA f) := by
  obtain ⟨t1, ho⟩ := exo_at I.hok ha
  obtain ⟨mA, hns, rel⟩ := exd_at I.hok hd
  obtain ⟨od, h1, h2⟩ := lookIn_ns hns
  exact ⟨_, od, mA, ⟨ho, rfl, rfl, h1⟩, h1, h2, rel⟩
theorem clsU.rel {M : Md} {B : Hp} {v : V} {d : D} {u w : Value} (h : clsU M.mg d u) (hd : Dp M B v d) (r : RelV v w) : w = u := by
  cases hd with
  | cls hm =>
    obtain ⟨h1, _⟩ := h
    rw [hm] at h1
    cases h1
    exact r
  | ty n => cases h; exact r
  | _ => exact h.elim
theorem clsU.all {M : Md} {B : Hp} {S : Str → D → Option Bool} {K : PySem.W.Frag} (hS : SubK K M.mg S) {c : Str} {C : Addr} (hc : M.mg c = some (.ref C)) : ∀ {ks : List D} {vs : List V} {ws : List Value} {bs : List Bool}, Dps M B vs ks → Vals vs ws → ks.map (S c) = bs.map some → PySem.W.kitAny K (.ref C) ws = some (bs.any id)
  | _, _, _, bs, .nil, .nil, h => by
    cases bs with
    | nil => rfl
    | cons _ _ => cases h
  | _, _, _, bs, .cons hd hds, .cons r rs, h => by
    cases bs with
    | nil => cases h
    | cons b bs =>
      obtain ⟨h1, h2⟩ := List.cons.inj h
      obtain ⟨C', u, hm, _, hu, hk⟩ := hS _ _ _ h1
      rw [hc] at hm
      cases hm
      cases hu.rel hd r
      have ih := clsU.all hS hc hds rs h2
      unfold PySem.W.kitAny
      rw [hk]
      cases b with
      | true => rfl
      | false => exact ih
theorem kit_exc {K : PySem.W.Frag} {C : Addr} (T : KitE K C) {x : Addr} {ox : Obj} {od : Option Obj} : PySem.W.KitX K (.ref x) (.ref C) (fun h => PySem.W.InstAt h x ox C od) := PySem.W.kitx_exc T.cl T.ga T.gt T.sub T.kc T.sp T.tk T.ob
theorem call_isiE {S : Str → D → Option Bool} (hS : SubK X.K X.mg S) : CallR X (.builtin "isinstance") (rcOf X.md (fIsiE S)) := by
  rintro pins s σ H xs us Q I r ⟨R, Fz, B, ds, Qd, w, h, hf, k⟩
  have one : ∀ {c : Str} {fs : List (Str × D)} {kd : D} {b : Bool}, ds = [.exc c fs, kd] → S c kd = some b → Qd (.bl b) → wpAny (model X.prog X.w) X.A (call (.builtin "isinstance") us) (EP X pins σ Q) X.xe s := by
    rintro c fs kd b rfl hs hq
    cases h with
    | cons h1 t1 => cases t1 with
      | cons h2 t2 =>
        cases t2
        obtain ⟨u1, u2, rfl, r1, r2⟩ := vals2 r
        obtain ⟨C, u, hm, T, hu, hk⟩ := hS _ _ _ hs
        cases hu.rel h2 r2
        cases h1 with
        | exc hm' ha hd hv =>
          rw [show X.md.mg = X.mg from rfl, hm] at hm'
          cases hm'
          cases r1
          obtain ⟨oe, od, mA, J, _⟩ := exc_at I (w.ex _ _ ha) (w.ex _ _ hd)
          exact PySem.W.kia_one (kit_exc T) I.kIn J hk (fun z => nomatch z) fun tk => ⟨.bl b, H, I.tok tk, rfl, k _ H B _ (Ex.refl B) w (.bl _) hq⟩
  unfold fIsiE at hf
  split at hf
  · obtain ⟨hne, bs, hb, hq⟩ := hf
    cases h with
    | cons h1 t1 => cases t1 with
      | cons h2 t2 =>
        cases t2
        obtain ⟨u1, u2, rfl, r1, r2⟩ := vals2 r
        cases h2 with
        | tup ht hts =>
          cases r2
          obtain ⟨its, rv, ⟨o, ho, hc, n, hd⟩, _⟩ := I.tuple (w.ex.st ht.st)
          cases h1 with
          | exc hm ha hdx hv =>
            cases r1
            obtain ⟨oe, od, mA, J, _⟩ := exc_at I (w.ex _ _ ha) (w.ex _ _ hdx)
            obtain ⟨o1, o2, o3, o4⟩ := o
            simp only at hc hd
            subst hc hd
            have T : ∀ {c : Str} {C : Addr} {ks : List D}, X.md.mg c = some (.ref C) → ks ≠ [] → ks.map (S c) = bs.map some → KitE X.K C := by
              intro c C ks hm hne hb
              cases ks with
              | nil => exact (hne rfl).elim
              | cons k0 kr =>
                cases bs with
                | nil => cases hb
                | cons b0 br =>
                  obtain ⟨C', u, hm', T, _⟩ := hS _ _ _ (List.cons.inj hb).1
                  rw [show X.md.mg = X.mg from rfl, hm'] at hm
                  cases hm
                  exact T
            exact PySem.W.kia_tup (kit_exc (T hm hne hb)) I.kIn J ho (clsU.all (M := X.md) hS hm hts rv hb) (fun z => nomatch z) fun tk => ⟨.bl _, H, I.tok tk, rfl, k _ H B _ (Ex.refl B) w (.bl _) hq⟩
  · obtain ⟨b, hs, hq⟩ := hf; exact one rfl hs hq
  · obtain ⟨b, hs, hq⟩ := hf; exact one rfl hs hq
  · exact hf.elim
theorem de_isiE {S : Str → D → Option Bool} {e2 : Expr} (hS : SubK X.K X.mg S) (hg : Gl X "isinstance") (hm : X.mg "isinstance" = none) (ha : DAs X W [e, e2] tr) (he : starEach [e, e2] X.env = (false, eval e X.env) :: starEach [e2] X.env := by rfl) (hpl : (backTo pos (starEach [e2] X.env)).any (·.1) = false := by rfl) : DE X W (.Call (.Name "isinstance" p) [e, e2] [] pos) (dCB (fIsiE S) tr) :=
  de_callB (call_isiE hS) rcOf_ok hg hm (by decide +kernel) ha (he := he) (hpl := hpl)
/-- a class of the text by its name -/
theorem de_cls {x : Str} (hg : Gl X x) (hm : ∃ C, X.mg x = some (.ref C)) (hd : (x == ("__debug__" : Str)) = false := by decide) : DE X W (.Name x pos) (dC (.cls x)) :=
  let ⟨C, hm⟩ := hm
  de_c (pe_glob (v := .ref C) hg hm rfl hd) fun _ => .cls hm
/-- x.f of an exception -/
def AttK (K : PySem.W.Frag) (mg : Str → Option Value) (A : Str → Str → Bool) : Prop := ∀ c n, A c n = true → ∃ C, mg c = some (.ref C) ∧ KitE K C ∧ PySem.W.findIn K (.ref C) n = some none
def dAtt (A : Str → Str → Bool) (n : Str) (t : DT) : DT := fun R ρ Q E => t R ρ (fun R d => ∃ c fs v, d = .exc c fs ∧ A c n = true ∧ fs.lookup n = some v ∧ Q R v) E
theorem Dpf.look {M : Md} {B : Hp} {n : Str} : ∀ {vs : List (Str × V)} {fs : List (Str × D)} {d : D}, Dpf M B vs fs → fs.lookup n = some d → ∃ v, vs.lookup n = some v ∧ Dp M B v d
  | _, _, _, .nil, h => by cases h
  | _, _, d, .cons (k := k) hv hr, h => by
    rw [List.lookup_cons] at h ⊢
    cases q : n == k with
    | true => rw [q] at h; cases h; exact ⟨_, rfl, hv⟩
    | false => rw [q] at h; exact Dpf.look hr h
def tAtt (K : PySem.W.Frag) (n : Str) (te : TE) : TE := fun σ H Q => te σ H fun x H1 => ∃ (q C dx : Addr) (vs : List (Str × V)) (v : V), x = .ref q ∧ H1 q = some (exo q C (some dx)) ∧ H1 dx = some (exd dx vs) ∧ vs.lookup n = some v ∧ KitE K C ∧ PySem.W.findIn K (.ref C) n = some none ∧ Q v H1
theorem pe_att {n : Str} {te : TE} (he : PE X e te) (hb : attributeBase e n X.env (eval e X.env) = eval e X.env := by rfl) : PE X (.Attribute e n pos) (tAtt X.K n te) := by
  refine ⟨fun pins s σ H Q I h => ?_⟩
  refine attr_of hb (thn (he.run pins s σ H _ I h) fun u s1 ⟨x, H1, I1, rx, q, C, dx, vs, v, ex, ha, hd, hl, T, hno, hq⟩ => ?_)
  subst ex
  obtain rfl : u = Value.ref q := rx
  obtain ⟨oe, od, mA, J, _, hk, rel⟩ := exc_at I1 ha hd
  obtain ⟨u, hu, ru⟩ := RelO.some_of (v := v) (o := mA n) (by rw [← hl]; exact rel n)
  exact HandSPX.exc_get I1.kIn J T.ga T.gt T.sub (PySem.W.findObj_own T.hd hno rfl (by rw [hk, hu])) (handed_of ru) ⟨v, H1, I1.tok _, ru, hq⟩
theorem de_att {A : Str → Str → Bool} {n : Str} (hA : AttK X.K X.mg A) (he : DE X W e t) (hb : attributeBase e n X.env (eval e X.env) = eval e X.env := by rfl) : DE X W (.Attribute e n pos) (dAtt A n t) :=
  (pe_att he hb).imp fun σ H Q ⟨R, Fz, B, ρ, Qd, E, w, sl, q, k, x⟩ => ⟨R, Fz, B, ρ, _, E, w, sl, q, fun R v H1 B1 d e1 w1 h1 ⟨c, fs, d2, ed, ha, hl, q1⟩ => by
    subst ed
    cases h1 with
    | exc hm h1 h2 h3 =>
      obtain ⟨C, hm', T, hn⟩ := hA _ _ ha
      rw [show X.md.mg = X.mg from rfl, hm'] at hm
      cases hm
      obtain ⟨y, hy, hd⟩ := h3.look hl
      exact ⟨_, _, _, _, y, rfl, w1.ex _ _ h1, w1.ex _ _ h2, hy, T, hn, k R y H1 B1 d2 e1 w1 hd q1⟩, x⟩
/-- {} -/
theorem de_dct0 : DE X W (.Dict [] [] pos) (dC (.dct [])) := pe_dnewK.imp fun σ H Q ⟨R, Fz, B, ρ, Qd, E, w, sl, q, k, _⟩ => fun z hz =>
  k R _ _ _ _ (Ex.new (w.free hz)) (w.new hz) (.dct upd_same .nil) q
end
end DL

set_option Elab.async false
set_option linter.all false
set_option maxRecDepth 100000
set_option maxHeartbeats 1000000
namespace DL
open PySem L2
/-! ### lists of one's own -/
theorem lst_sys {vs : List V} (o : Obj) : HO.lst vs ≠ sysO o := fun z => by unfold sysO at z; cases z
section
variable {M : Md} {R : Res} {F0 B Fz H B' H' : Hp} {σ : L2.St} {ρ : Env}
theorem set_at {α : Type} {l : List α} {i j : Nat} {x y : α} (h : (l.set i x)[j]? = some y) : (i = j ∧ x = y ∧ i < l.length) ∨ (i ≠ j ∧ l[j]? = some y) := by
  by_cases q : i = j
  · subst q
    have hl : i < l.length := by
      have := (List.getElem?_eq_some_iff.mp h).1
      rw [List.length_set] at this; exact this
    rw [List.getElem?_set_self hl] at h
    exact .inl ⟨rfl, Option.some.inj h, hl⟩
  · rw [List.getElem?_set_ne q] at h
    exact .inr ⟨q, h⟩
theorem SR.setOwn {i : Nat} {p : Addr} {vs : List V} {ds : List D} (s : SR M R F0 B Fz H σ ρ) (hp : H p = none) (h : Dps M B vs ds) : SR M R F0 B (upd Fz p (.lst vs)) (upd H p (.lst vs)) (σ.set i (some (.ref p))) (ρ.set i (some (.own (.lst ds)))) := by
  have np : Fz p = none := s.wd.fz.free hp
  refine ⟨s.wd.own hp, ⟨by rw [List.length_set, List.length_set]; exact s.sl.len, fun j d e n => ?_⟩, s.f0.trans (Ex.new np), s.s0, fun j d e => ?_, fun j k d e a h1 h2 h3 h4 => ?_⟩
  · rcases set_at e with ⟨rfl, q, _⟩ | ⟨ne, q⟩
    · cases q; cases n
    · rw [List.getElem?_set_ne ne]; exact s.sl.get j d q n
  · rcases set_at e with ⟨rfl, q, hl⟩ | ⟨ne, q⟩
    · cases q
      exact ⟨p, .lst vs, List.getElem?_set_self (by rw [s.sl.len]; exact hl), s.f0.free np, upd_same, vs, rfl, h⟩
    · obtain ⟨a, o, q1, q2, q3, q4⟩ := s.own j d q
      exact ⟨a, o, by rw [List.getElem?_set_ne ne]; exact q1, q2, by rw [upd_ne (ne_of_none q3 np)]; exact q3, q4⟩
  · rcases set_at h1 with ⟨rfl, _, _⟩ | ⟨n1, q1⟩
    · rcases set_at h2 with ⟨rfl, _, _⟩ | ⟨n2, q2⟩
      · rfl
      · obtain ⟨b, o, z1, _, z3, _⟩ := s.own k e q2
        rw [List.getElem?_set_ne n2, z1] at h4
        cases h4
        rcases set_at h3 with ⟨_, z, _⟩ | ⟨n, _⟩
        · cases z; rw [np] at z3; cases z3
        · exact (n rfl).elim
    · obtain ⟨b, o, z1, _, z3, _⟩ := s.own j d q1
      rw [List.getElem?_set_ne n1, z1] at h3
      cases h3
      rcases set_at h2 with ⟨rfl, _, _⟩ | ⟨n2, q2⟩
      · rcases set_at h4 with ⟨_, z, _⟩ | ⟨n, _⟩
        · cases z; rw [np] at z3; cases z3
        · exact (n rfl).elim
      · rw [List.getElem?_set_ne n2] at h4
        exact s.inj j k d e _ q1 q2 z1 h4
theorem SR.turn {i : Nat} {l : Addr} {d0 : D} {us vs : List V} {ds : List D} (s : SR M R F0 B Fz H σ ρ) (hi : ρ[i]? = some (some (.own d0))) (hl : σ[i]? = some (some (.ref l))) (hf : Fz l = some (.lst us)) (h0 : F0 l = none) (h : Dps M B vs ds) :
    SR M R F0 B (upd Fz l (.lst vs)) (upd H l (.lst vs)) σ (ρ.set i (some (.own (.lst ds)))) := by
  refine ⟨s.wd.turn hf lst_sys, ⟨by rw [List.length_set]; exact s.sl.len, fun j d e n => ?_⟩, fun a o e => ?_, s.s0, fun j d e => ?_, fun j k d e a h1 h2 h3 h4 => ?_⟩
  · rcases set_at e with ⟨rfl, q, _⟩ | ⟨ne, q⟩
    · cases q; cases n
    · exact s.sl.get j d q n
  · rw [upd_ne (fun z => by rw [z, h0] at e; cases e)]; exact s.f0 a o e
  · rcases set_at e with ⟨rfl, q, _⟩ | ⟨ne, q⟩
    · cases q
      exact ⟨l, .lst vs, hl, h0, upd_same, vs, rfl, h⟩
    · obtain ⟨a, o, q1, q2, q3, q4⟩ := s.own j d q
      have na : a ≠ l := fun z => by subst z; exact ne (s.inj i j _ _ _ hi q hl q1)
      exact ⟨a, o, q1, q2, by rw [upd_ne na]; exact q3, q4⟩
  · have f : ∀ {j : Nat} {d : D}, (ρ.set i (some (.own (.lst ds))))[j]? = some (some (.own d)) → ∃ d', ρ[j]? = some (some (.own d')) := fun {j d} e => by
      rcases set_at e with ⟨rfl, _, _⟩ | ⟨_, q⟩
      · exact ⟨_, hi⟩
      · exact ⟨_, q⟩
    obtain ⟨d1, q1⟩ := f h1
    obtain ⟨d2, q2⟩ := f h2
    exact s.inj j k _ _ a q1 q2 h3 h4
theorem SR.give {i : Nat} {ds : List D} (s : SR M R F0 B Fz H σ ρ) (hi : ρ[i]? = some (some (.own (.lst ds)))) : ∃ B1 Fz1, Ex B B1 ∧ SR M R F0 B1 Fz1 H σ (ρ.set i (some (.lst ds))) := by
  obtain ⟨l, o, q1, q2, q3, vs, rfl, hv⟩ := s.own i _ hi
  have nb : B l = none := s.wd.dis _ _ q3
  have ex : Ex B (upd B l (.lst vs)) := Ex.new nb
  refine ⟨upd B l (.lst vs), cutH Fz l, ex, s.wd.give q3 lst_sys, ⟨by rw [List.length_set]; exact s.sl.len, fun j d e n => ?_⟩, fun a o e => ?_, s.s0, fun j d e => ?_, fun j k d e a h1 h2 h3 h4 => ?_⟩
  · rcases set_at e with ⟨rfl, q, _⟩ | ⟨ne, q⟩
    · cases q
      exact ⟨_, q1, .lst upd_same (hv.mono ex)⟩
    · obtain ⟨v, g1, g2⟩ := s.sl.get j d q n
      exact ⟨v, g1, g2.mono ex⟩
  · rw [cutH_ne (fun z => by rw [z, q2] at e; cases e)]; exact s.f0 a o e
  · rcases set_at e with ⟨rfl, q, _⟩ | ⟨ne, q⟩
    · cases q
    · obtain ⟨a, o, g1, g2, g3, g4⟩ := s.own j d q
      have na : a ≠ l := fun z => by subst z; exact ne (s.inj i j _ _ _ hi q q1 g1)
      exact ⟨a, o, g1, g2, by rw [cutH_ne na]; exact g3, g4.mono ex⟩
  · rcases set_at h1 with ⟨rfl, q, _⟩ | ⟨_, z1⟩
    · cases q
    · rcases set_at h2 with ⟨rfl, q, _⟩ | ⟨_, z2⟩
      · cases q
      · exact s.inj j k _ _ a z1 z2 h3 h4
end
/-- a new list, nobody else's -/
def liftF (M : Md) (W : WX) (t : DA) : TE := fun σ H Q => ∃ (R : Res) (Fz B : Hp) (ρ : Env) (Qd : Res → List D → Prop) (E : DX), Wd R B Fz H ∧ Slots M B σ ρ ∧ t R ρ Qd E ∧
  (∀ (R : Res) (v : List V) (p : Addr) (H' B' : Hp) (d : List D), Ex B B' → Wd R B' Fz H' → H' p = none → Dps M B' v d → Qd R d → Q (.ref p) (upd H' p (.lst v))) ∧ XL M W B Fz σ E
abbrev DF (X : Cx) (W : WX) (e : Expr) (t : DA) : Prop := PE X e (liftF X.md W t)
section
variable {X : Cx} {W : WX} {a b c e : Expr} {es : List Expr} {ta tb t : DT} {tr : DA} {pos p apos : Pos} {sts : List Stmt} {tu : DSt}
def fCat (ta tb : DT) : DA := fun R ρ Q E => ta R ρ (fun R x => tb R ρ (fun R y => ∃ xs ys, x = .lst xs ∧ y = .lst ys ∧ xs.length + ys.length ≤ sizeLine ∧ Q R (xs ++ ys)) E) E
theorem df_cat (ha : DE X W a ta) (hb : DE X W b tb) : DF X W (.BinOp a .Add b pos) (fCat ta tb) :=
  (pe_op op_cat ha hb).imp fun σ H Q ⟨R, Fz, B, ρ, Qd, E, w, sl, q, k, x⟩ => ⟨R, Fz, B, ρ, _, E, w, sl, q, fun R1 v H1 B1 d e1 w1 h1 q1 =>
    ⟨R1, Fz, B1, ρ, _, E, w1, sl.mono e1, q1, fun R2 u H2 B2 d2 e2 w2 h2 ⟨xs, ys, e3, e4, hz, q2⟩ => by
      subst e3 e4
      have h1' := h1.mono e2
      cases h1' with
      | lst s1 g1 =>
        cases h2 with
        | lst s2 g2 =>
          exact ⟨_, _, _, _, rfl, rfl, w2.ex _ _ s1, w2.ex _ _ s2, by rw [g1.length, g2.length]; exact hz, fun p hp => k R2 _ p H2 B2 _ (e1.trans e2) w2 hp (g1.append g2) q2⟩, x.mono e1⟩, x⟩
def fLst (ta : DA) : DA := fun R ρ Q E => ta R ρ (fun R xs => xs.length ≤ sizeLine ∧ Q R xs) E
theorem df_lst (h : DAs X W es tr) : DF X W (.List es pos) (fLst tr) :=
  (pe_lst h).imp fun σ H Q ⟨R, Fz, B, ρ, Qd, E, w, sl, q, k, x⟩ => ⟨R, Fz, B, ρ, _, E, w, sl, q, fun R vs H1 B1 ds e1 w1 h1 ⟨hz, q1⟩ =>
    ⟨by rw [h1.length]; exact hz, fun p hp => k R _ p H1 B1 _ e1 w1 hp h1 q1⟩, x⟩
/-- name = a new list -/
def dOwn (i : Nat) (t : DA) : DSt := fun R De ρ => t R ρ (fun R ds => De.nx R (ρ.set i (some (.own (.lst ds))))) (fun R c fs => De.ex R c fs ρ)
theorem ds_own {i : Nat} {x : Str} {pos' : Pos} (hN : X.N.Nodup) (hi : X.N[i]? = some x) (hx : Loc X.env.scope x) (he : DF X W e tr) (hs : swapsWith e (some (.Name x pos')) pos.line X.env = pure false := by rfl)
    (hf : X.fn x = true ∨ X.env.scope.names.lookup x = some .local := by first | exact .inl rfl | exact .inr rfl | assumption) : DS X W (.Assign [.Name x pos'] e pos) (dOwn i tr) := (ps_set hN hi hx he hs hf).imp fun En σ H ⟨R, F0, B, Fz, ρ, De, s, q, x⟩ =>
  ⟨R, Fz, B, ρ, _, _, s.wd, s.sl, q, fun R v p H' B' d e w hp h q1 => x.nx R _ _ B' _ _ e ((s.grow e w).setOwn hp h) q1, x.xl s⟩
/-- name.append(e) -/
def dApp (i : Nat) (t : DT) : DSt := fun R De ρ => ∃ ds, ρ[i]? = some (some (.own (.lst ds))) ∧ t R ρ (fun R d => ds.length < sizeLine ∧ De.nx R (ρ.set i (some (.own (.lst (ds ++ [d])))))) (fun R c fs => De.ex R c fs ρ)
theorem ds_app {i : Nat} {x : Str} {px : Pos} (hN : X.N[i]? = some x) (he : DE X W e t) (hv : Vis X.env.scope x := by first | exact Or.inl rfl | exact Or.inr (Or.inl rfl) | exact Or.inr (Or.inr rfl)) (hd : (x == ("__debug__" : Str)) = false := by decide)
    (hcd : (x == ("__classdict__" : Str)) = false := by decide) (hline : (apos.endLine == p.line) = true := by rfl) (h1 : starEach [e] X.env = (false, eval e X.env) :: starEach [] X.env := by rfl)
    (hs : swapsWith (.Call (.Attribute (.Name x px) "append" apos) [e] [] p) none pos.line X.env = pure false := by rfl) : DS X W (.Expr (.Call (.Attribute (.Name x px) "append" apos) [e] [] p) pos) (dApp i t) := by
  refine (ps_expr (pe_bm PySem.F.plainAttrs_list PySem.F.slot_list_append PySem.F.type_list_append mt_append (pe_var hN hv hd hcd) (pa_cons he pa_nil h1) (hline := hline) (hs := h1) (hfew := by rw [h1]; rfl)) hs).imp fun En σ H ⟨R, F0, B, Fz, ρ, De, s, ⟨ds, hi, q⟩, x⟩ => ?_
  obtain ⟨l, o, q1, q2, q3, vs, rfl, hv⟩ := s.own i _ hi
  refine ⟨_, q1, .inl ⟨rfl, vs, SqL.of (s.wd.fz _ _ q3)⟩, ?_⟩
  refine ⟨R, Fz, B, ρ, _, _, s.wd, s.sl, q, fun R v H' B' d e w h ⟨hz, q4⟩ => ?_, x.xl s⟩
  have s' := s.grow e w
  refine ⟨l, vs, v, rfl, rfl, w.fz _ _ q3, by rw [hv.length]; exact hz, ?_⟩
  exact x.nx R _ _ B' _ _ e (s'.turn hi q1 q3 q2 ((hv.mono e).append (.cons h .nil))) q4
/-- a list is given away: it changes no more -/
def dGive (i : Nat) (u : DSt) : DSt := fun R De ρ => ∃ ds, ρ[i]? = some (some (.own (.lst ds))) ∧ u R De (ρ.set i (some (.lst ds)))
theorem dss_give (i : Nat) (h : DSs X W sts tu) : DSs X W sts (dGive i tu) := h.imp fun En σ H ⟨R, F0, B, Fz, ρ, De, s, ⟨ds, hi, q⟩, x⟩ =>
  let ⟨B1, Fz1, ex, s1⟩ := s.give hi
  ⟨R, F0, B1, Fz1, _, De, s1, q, x.mono ex⟩
end
end DL

set_option Elab.async false
set_option linter.all false
set_option maxRecDepth 100000
set_option maxHeartbeats 1000000
namespace DL
open PySem L2 PySem.Spec PyProof.Rows
/-! ### a law's end -/
def H0 (a : Addr) (u : Option HO) (o : Obj) : Hp := fun b => if b = sysModules then some (sysO o) else if b = a then u else none
theorem H0_sys {a : Addr} {u : Option HO} {o : Obj} : H0 a u o sysModules = some (sysO o) := if_pos rfl
theorem H0_a {a : Addr} {u : Option HO} {o : Obj} (h : a ≠ sysModules) : H0 a u o a = u := by unfold H0; rw [if_neg h, if_pos rfl]
theorem H0_none {a b : Addr} {u : Option HO} {o : Obj} (h1 : b ≠ sysModules) (h2 : b ≠ a) : H0 a u o b = none := by unfold H0; rw [if_neg h1, if_neg h2]
theorem law_g {P : Program} {w : World} {K : PySem.W.Frag} {mg mb : Str → Option Value} {k : Nat} {fa a : Addr} {fd : FuncData} {x : Str} {sp : DSp} {s₁ : Shared} {vs : List Value} {ns : List Int} {oS : Obj} {es : Array DictEntry} {ep : Nat}
    (KX : K.In s₁.heap) (hns : s₁.heap.Ns mainGlobals mg) (hb : s₁.heap.Ns builtinsNs mb) (hbb : ∀ x : Str, x ≠ "__name__" → mb x = bootBuiltins x) (hlim : s₁.heap.NoLimit) (hg : s₁.gens = #[])
    (hks : K.lookup sysModules = none) (hsy : s₁.heap.get? sysModules = some oS) (hsd : oS.data = .dict es ep)
    (ha : s₁.heap.get? a = some { cls := .type "list", data := .seq vs.toArray }) (hi : IntsAre vs ns) (hl : ns.length ≤ sizeLine) (hr : Room k callerA)
    (F : ∀ base : Heap, K.In base → base.Ns mainGlobals mg → FnG P w K mg base (L2.CX P w) k fa fd [x] (spL ⟨K, mg⟩ sp)) (hbind : ∀ (s : Shared) (u : Value), BindsTo s fd ⟨[u], []⟩ [(x, u)])
    (hsp : sp emp [.frl (ns.map D.int)] (fun _ d => d = .bl true) noX) :
    codeAny (model P w) callerA (.call (.ref fa) ⟨[.ref a], []⟩) (fun r s' => r = .ok (.ret (.bool true)) ∧ OldK s₁.heap s'.heap ∧ s'.os = s₁.os ∧ AllBare s'.gens) s₁ := by
  have rv := vals_ints hi
  have lenV := hi.length
  have nas : a ≠ sysModules := fun z => by
    rw [z, hsy] at ha
    cases ha
    cases hsd
  have core : ∀ u : Option HO, (u = none ∨ ∃ o xs, u = some (.frz o (.lst xs))) → SqL K (fun b => if b = a then u else none) a (ns.map V.int) → HOk P w (H0 a u oS) s₁.heap → (u ≠ none → K.lookup a = none) →
      codeAny (model P w) callerA (.call (.ref fa) ⟨[.ref a], []⟩) (fun r s' => r = .ok (.ret (.bool true)) ∧ OldK s₁.heap s'.heap ∧ s'.os = s₁.os ∧ AllBare s'.gens) s₁ := by
    intro u hu hS hok hK
    have base_of : ∀ {b : Addr} {o : Obj}, s₁.heap.get? b = some o → H0 a u oS b = none → (hidT s₁.heap (H0 a u oS)).get? b = some o := fun e n => hidT_get e n
    have nsK : ∀ {b : Addr} {m : Str → Option Value}, b ≠ sysModules → s₁.heap.Ns b m → (hidT s₁.heap (H0 a u oS)).Ns b m := fun {b m} hb' ⟨o, es, ep, e, d, r⟩ => by
      refine ⟨o, es, ep, base_of e (H0_none hb' fun z => ?_), d, r⟩
      rw [z, ha] at e
      cases e
      cases d
    have hKb : K.In (hidT s₁.heap (H0 a u oS)) := fun b o e => base_of (KX b o e) (by
      have n1 : b ≠ sysModules := fun z => by rw [z, hks] at e; cases e
      by_cases hb : b = a
      · subst hb
        rw [H0_a n1]
        cases u with
        | none => rfl
        | some v => rw [hK (by simp)] at e; cases e
      · exact H0_none n1 hb)
    have hM : Mod K mg (hidT s₁.heap (H0 a u oS)) := ⟨hKb, nsK (by decide) hns, ⟨mb, nsK (by decide) hb, hbb⟩, let ⟨mc, h1, h2⟩ := hlim; ⟨mc, nsK (by decide) h1, h2⟩⟩
    have e0 : Env0 P w K mg (hidT s₁.heap (H0 a u oS)) callerA [] s₁ (H0 a u oS) := ⟨rfl, hM, fun b o e => of_hidT e, Nat.le_of_eq (hidT_size _ _), trivial, fun b hb => absurd (show b ∈ ([] : List Addr) from hb) (by simp), hok, .of_eq hg⟩
    have hw : Wd emp (fun b => if b = a then u else none) (fun b => if b = sysModules then some (sysO oS) else none) (H0 a u oS) := {
      sys := ⟨oS, if_pos rfl⟩
      ex := fun b o e => by
        by_cases q : b = a
        · subst q; rw [H0_a nas]; exact (if_pos rfl).symm.trans e
        · cases (if_neg q).symm.trans e
      fz := fun b o e => by
        by_cases q : b = sysModules
        · subst q; rw [H0_sys]; exact (if_pos rfl).symm.trans e
        · cases (if_neg q).symm.trans e
      dis := fun b o e => by
        by_cases q : b = sysModules
        · subst q; exact if_neg (Ne.symm nas)
        · cases (if_neg q).symm.trans e
      res := trivial }
    have hs : spL ⟨K, mg⟩ sp [.ref a] (H0 a u oS) (fun v H' => v = .bl true ∧ H' sysModules = some (sysO oS)) (fun _ _ _ => False) :=
      ⟨emp, _, _, _, _, noX, hw, .cons (.frl hS (Dps.ints ns)) .nil, hsp, fun R v H' B' d e w' h q => by subst q; exact ⟨h.ofBl, w'.fz _ _ (if_pos rfl)⟩, fun _ _ _ _ _ _ _ _ _ _ _ _ _ z => z⟩
    refine codeAny_mono ((F _ hKb (nsK (by decide) hns)).go callerA [] s₁ _ ⟨[.ref a], []⟩ [.ref a] [.ref a] _ _ hr rfl e0 (hbind s₁ (.ref a)) (.cons rfl .nil) hs) fun r s' h => ?_
    cases r with
    | error e =>
      obtain ⟨_, _, _, _, _, _, _, _, _, _, _, _, z⟩ := h
      exact z.elim
    | ok fl =>
      cases fl with
      | next => exact False.elim h
      | brk => exact False.elim h
      | cont => exact False.elim h
      | ret uv =>
        obtain ⟨v, H', os, bare, un, hok', r', q, qs⟩ := h
        subst q
        obtain rfl : uv = Value.bool true := r'
        refine ⟨rfl, OldK.of_keep fun b o e => ?_, os, bare⟩
        by_cases h1 : b = sysModules
        · subst h1
          have z : ObjOk P w H' s'.heap sysModules (.ext fun h => h.get? sysModules = some oS) := hok' _ _ qs
          rw [hsy] at e
          cases e
          exact z.1
        · by_cases h2 : b = a
          · subst h2
            rcases hu with rfl | ⟨ob, xs, rfl⟩
            · exact un.keep b o e (H0_a h1) (by intro z; exact absurd (show b ∈ ([] : List Addr) from z) (by simp)) (by simp)
            · have z := H0_a (u := some (.frz ob (.lst xs))) (o := oS) h1
              obtain ⟨e1, _⟩ := hok b _ z
              obtain ⟨e2, _⟩ := hok' b _ (un.frzs b ob _ z)
              rw [e] at e1
              cases e1
              exact e2
          · exact un.keep b o e (H0_none h1 h2) (by intro z; exact absurd (show b ∈ ([] : List Addr) from z) (by simp)) (by simp)
  have sysok : ∀ (H : Hp), ObjOk P w H s₁.heap sysModules (sysO oS) := fun H => ⟨hsy, ⟨_, hsy⟩, fun h1 h2 z k => k _ z⟩
  cases hk : K.lookup a with
  | some o =>
    have e := KX a o hk
    rw [ha] at e
    cases e
    refine core none (.inl rfl) (.inr ⟨_, vs.toArray, _, hk, rfl, rfl, rfl, by rw [List.size_toArray, lenV]; exact hl, by simpa using rv⟩) (fun b v z => ?_) fun z => absurd rfl z
    by_cases q : b = sysModules
    · subst q; rw [H0_sys] at z; cases z; exact sysok _
    · by_cases q2 : b = a
      · subst q2; rw [H0_a q] at z; cases z
      · rw [H0_none q q2] at z; cases z
  | none =>
    refine core (some (.frz { cls := .type "list", data := .seq vs.toArray } (.lst (ns.map V.int)))) (.inr ⟨_, _, rfl⟩) (.inl (.inr ⟨{ cls := .type "list", data := .seq vs.toArray }, if_pos rfl⟩)) (fun b v z => ?_) fun _ => hk
    by_cases q : b = sysModules
    · subst q; rw [H0_sys] at z; cases z; exact sysok _
    · by_cases q2 : b = a
      · subst q2; rw [H0_a q] at z; cases z
        exact ⟨ha, by rw [List.length_map]; exact hl, vs, _, rv, ha⟩
      · rw [H0_none q q2] at z; cases z
end DL

set_option Elab.async false
set_option linter.all false
set_option maxRecDepth 100000
set_option maxHeartbeats 1000000
namespace DL
open PySem L2 PySem.Spec PyProof.Rows
/-! ### what the head tells -/
abbrev Fg := PySem.W.Frag
def asX (g : Addr → Option Obj) : Nat → List Addr
  | 0 => [mainGlobals, cStatics]
  | n + 1 => He.growD g (asX g n)
def Kx (g : Addr → Option Obj) (n : Nat) : Fg := He.frG g ((asX g n).filter (· != sysModules))
theorem frG_out {g : Addr → Option Obj} {a : Addr} : ∀ {as : List Addr}, a ∉ as → (He.frG g as).lookup a = none
  | [], _ => rfl
  | b :: r, h => by
    unfold He.frG
    rw [List.filterMap_cons]
    have h2 : a ∉ r := fun z => h (List.mem_cons_of_mem _ z)
    have ih := frG_out (g := g) h2
    unfold He.frG at ih
    cases q : g b with
    | none => exact ih
    | some o =>
      show List.lookup a ((b, o) :: _) = none
      rw [List.lookup_cons]
      have n : (a == b) = false := by
        apply Bool.eq_false_iff.mpr
        intro z
        exact h (by rw [beq_iff_eq.mp z]; exact List.mem_cons_self ..)
      rw [n]
      exact ih
def isDict : Option Obj → Bool
  | some ⟨_, _, .dict _ _, _⟩ => true
  | _ => false
/-- an own exception class: its name, its field, its __init__'s qualified name and text, whether it stands over OverflowError -/
structure XnD where
  cls : Str
  fld : Str
  qual : Str
  st : Stmt
  ovf : Bool
abbrev XV := Option (Str × Str × Arguments × FuncBody × Scope × Addr × List Str × Value × Addr)
def XnD.C (K : Fg) (d : XnD) : Addr := He.ga K d.cls
def XnD.f (K : Fg) (d : XnD) : Addr := He.ma K (d.C K) "__init__"
def xnObs (K : Fg) (d : XnD) : XV := match K.lookup (d.f K) with
  | some ⟨_, _, .func fd, _⟩ => some (fd.name, fd.qualname, fd.params, fd.body, fd.scope, fd.globals, fd.closure.map (·.1), fd.defaults, fd.builtins)
  | _ => none
def XnD.val (d : XnD) : XV := some ("__init__", d.qual, defArgs d.st, .stmts (defBody d.st), defScope d.st, mainGlobals, ["__class__"], .none, builtinsNs)
abbrev ovTail : List Value := [.type "OverflowError", .type "ArithmeticError", .type "Exception", .type "BaseException", .type "object"]
def baseB (K : Fg) (C : Addr) (B newId initId : String) (bm : List Value) : Bool := PySem.W.excInitIn K C bm newId && (PySem.W.excOver K C bm && (decide (PySem.W.ks_superIn K C C "__init__" = some (some (.builtin initId))) && decide (PySem.W.subIn K (.ref C) (.type B) = some true)))
def kitB2 (K : Fg) (C : Addr) : Bool := (PySem.W.clsIn K C).isSome && (decide (PySem.W.findIn K (.ref C) "__getattribute__" = some (some (.builtin "BaseException.__getattribute__"))) && (decide (PySem.W.findIn K (.ref C) "__getattr__" = some none) && (decide (PySem.W.subIn K (.ref C) (.type "BaseException") = some true) &&
  (decide (PySem.W.findIn K (.ref C) "__class__" = some (some (.builtin "object.__class__"))) && (decide (PySem.W.specialIn K (.builtin "object.__class__") "__get__" = some (some (.builtin "getset_descriptor.__get__"))) && (decide (PySem.W.takesIn K (.builtin "object.__class__") = some true) &&
  (decide (PySem.W.mroIn K C (.type "object") = some true) && PySem.W.hasDictIn K C)))))))
def codeB (mf : Str) (K : Fg) (C : Addr) : Option Obj → Bool
  | some ⟨_, _, .func fd, _⟩ => (match fd.code, fd.closure with
    | .ref c, [(_, cc)] => PySem.W.codeIn K (.ref c) fd.qualname && ((match K.lookup c with
        | some ⟨_, _, .fields vs, _⟩ => (match vs.toList with
          | _ :: _ :: .str file _ :: _ => mf == file
          | _ => false)
        | _ => false) && (match K.lookup cc with
        | some ⟨_, _, .cell (some (.ref C')), _⟩ => C' == C
        | _ => false))
    | _, _ => false)
  | _ => false
def XnD.ok (mf : Str) (K : Fg) (d : XnD) : Bool := (if d.ovf then baseB K (d.C K) "OverflowError" "OverflowError.__new__" "OverflowError.__init__" ovTail else baseB K (d.C K) "ValueError" "ValueError.__new__" "ValueError.__init__" He.veBase) &&
  (decide (PySem.W.findIn K (.ref (d.C K)) "__setattr__" = some (some (.builtin "object.__setattr__"))) && (decide (PySem.W.mroIn K (d.C K) (.ref (d.C K)) = some true) && (decide (PySem.W.findIn K (.ref (d.C K)) d.fld = some none) && (decide (PySem.W.nsIn K cStatics "thirdparty.any" = some none) &&
  (PySem.W.keepIn K (.ref (d.C K)) && (decide (PySem.W.findIn K (.ref (d.C K)) "__init__" = some (some (.ref (d.f K)))) && (decide (PySem.W.typeIn K (.ref (d.f K)) = some (.type "function")) && (kitB2 K (d.C K) && (codeB mf K (d.C K) (K.lookup (d.f K)) && decide (PySem.W.nsIn K mainGlobals d.cls = some (some (.ref (d.C K)))))))))))))
abbrev AlX := Bool × List He.FnV × List XV
def obsX (mf : Str) (fa : List (Fg → Bool)) (fn : List He.FnD) (xn : List XnD) (K : Fg) : AlX := ((fa.all fun f => f K) && ((fn.all fun d => (He.Fa.code d.at_ d.qual).ok K) && xn.all fun d => d.ok mf K), fn.map (fun d => He.fnObs K d.at_), xn.map (xnObs K))
def valX (fn : List He.FnD) (xn : List XnD) : AlX := (true, fn.map He.FnD.val, xn.map XnD.val)
structure SaysX (mf : Str) (fa : List (Fg → Bool)) (fn : List He.FnD) (xn : List XnD) (K : Fg) (h : Heap) : Prop where
  kin : K.In h
  eq : obsX mf fa fn xn K = valX fn xn
  nos : K.lookup sysModules = none
  sys : isDict (h.get? sysModules) = true
def obsXG (n : Nat) (mf : Str) (fa : List (Fg → Bool)) (fn : List He.FnD) (xn : List XnD) (g : Addr → Option Obj) : Bool × AlX := (isDict (g sysModules), obsX mf fa fn xn (Kx g n))
theorem isDict_keeps {h h' : Heap} (e : isDict (h.get? sysModules) = true) (k : ∀ b o, h.get? b = some o → h'.get? b = some o) : isDict (h'.get? sysModules) = true := by
  cases q : h.get? sysModules with
  | none => rw [q] at e; cases e
  | some o => rw [k _ _ q]; rw [q] at e; exact e
def hookX (n : Nat) (mf : Str) (fa : List (Fg → Bool)) (fn : List He.FnD) (xn : List XnD) : PySem.W.Hook where
  α := Bool × AlX
  obs := fun s => obsXG n mf fa fn xn s.heap.get?
  val := fun _ => (true, valX fn xn)
  says := fun _ h => ∃ K : Fg, SaysX mf fa fn xn K h
  of := fun _ _ e => ⟨_, He.frG_in, (Prod.mk.inj e).2, frG_out (fun z => by have := (List.mem_filter.mp z).2; simp at this), (Prod.mk.inj e).1⟩
  keeps := fun _ _ _ ⟨K, c⟩ k => ⟨K, PySem.W.Frag.In.keeps c.kin k, c.eq, c.nos, isDict_keeps c.sys k⟩
theorem obsXG_eq {n : Nat} {mf : Str} {fa : List (Fg → Bool)} {fn : List He.FnD} {xn : List XnD} {g : Addr → Option Obj} {s : Shared} (h : ∀ a, g a = s.heap.get? a) : obsXG n mf fa fn xn g = (hookX n mf fa fn xn).obs s := by
  have e : g = s.heap.get? := funext h
  rw [e] <;> rfl
section
variable {mf : Str} {fa : List (Fg → Bool)} {fn : List He.FnD} {xn : List XnD} {K : Fg} {h : Heap}
theorem SaysX.all (c : SaysX mf fa fn xn K h) : (fa.all fun f => f K) = true ∧ (fn.all fun d => (He.Fa.code d.at_ d.qual).ok K) = true ∧ (xn.all fun d => d.ok mf K) = true := by
  have e : ((fa.all fun f => f K) && ((fn.all fun d => (He.Fa.code d.at_ d.qual).ok K) && xn.all fun d => d.ok mf K)) = true := congrArg (fun z : AlX => z.1) c.eq
  obtain ⟨e1, e⟩ := He.ba e
  exact ⟨e1, He.ba e⟩
theorem SaysX.fact (c : SaysX mf fa fn xn K h) (i : Nat) {f : Fg → Bool} (hi : fa[i]? = some f := by rfl) : f K = true := List.all_eq_true.mp c.all.1 f (List.mem_of_getElem? hi)
theorem SaysX.def_ (c : SaysX mf fa fn xn K h) (i : Nat) {d : He.FnD} (hi : fn[i]? = some d := by rfl) :
    ∃ oc od osl kV doc pm an cdv ct, K.lookup (He.fAd K d.at_) = some ⟨oc, od, .func (PySem.W.fnOf d.name d.qual d.params d.body d.scope .none kV doc pm an cdv ct), osl⟩ ∧ PySem.W.codeIn K cdv d.qual = true := by
  have e : fn.map (fun d => He.fnObs K d.at_) = fn.map He.FnD.val := congrArg (fun z : AlX => z.2.1) c.eq
  have e2 : (fn.map fun d => He.fnObs K d.at_)[i]? = (fn.map He.FnD.val)[i]? := by rw [e]
  rw [List.getElem?_map, List.getElem?_map, hi] at e2
  exact He.fn_ok (Option.some.inj e2) (List.all_eq_true.mp c.all.2.1 d (List.mem_of_getElem? hi))
theorem SaysX.defAt (c : SaysX mf fa fn xn K h) {mg : Str → Option Value} (G : h.Ns mainGlobals mg) {x : Str} {st : Stmt} (i j : Nat) (hi : fn[i]? = some ⟨(x, none), x, x, defArgs st, defBody st, defScope st⟩) (hj : fa[j]? = some fun K => (He.Fa.glo x).ok K && (He.Fa.keep x).ok K) : DefAt K mg x st := by
  obtain ⟨oc, od, osl, kV, doc, pm, an, cdv, ct, e1, e2⟩ := c.def_ i hi
  obtain ⟨k1, k2⟩ := He.ba (c.fact j hj)
  exact ⟨_, _, He.glo_ok c.kin G k1, ⟨oc, od, kV, doc, pm, an, cdv, ct, osl, rfl, e1, e2⟩, He.keep_ok k2⟩
theorem SaysX.free (c : SaysX mf fa fn xn K h) {mg : Str → Option Value} (G : h.Ns mainGlobals mg) {x : Str} (j : Nat) (hj : fa[j]? = some fun K => (He.Fa.free x).ok K) : mg x = none := He.free_ok c.kin G (c.fact j hj)
theorem baseB_ok {C : Addr} {B newId initId : String} {bm : List Value} (e : baseB K C B newId initId bm = true) : PySem.W.excInitIn K C bm newId = true ∧ PySem.W.excOver K C bm = true ∧ PySem.W.ks_superIn K C C "__init__" = some (some (.builtin initId)) ∧ PySem.W.subIn K (.ref C) (.type B) = some true := by
  obtain ⟨e1, e⟩ := He.ba e
  obtain ⟨e2, e⟩ := He.ba e
  obtain ⟨e3, e4⟩ := He.ba e
  exact ⟨e1, e2, of_decide_eq_true e3, of_decide_eq_true e4⟩
theorem kitB2_ok {C : Addr} (e : kitB2 K C = true) : KitE K C := by
  obtain ⟨e1, e⟩ := He.ba e
  obtain ⟨e2, e⟩ := He.ba e
  obtain ⟨e3, e⟩ := He.ba e
  obtain ⟨e4, e⟩ := He.ba e
  obtain ⟨e5, e⟩ := He.ba e
  obtain ⟨e6, e⟩ := He.ba e
  obtain ⟨e7, e⟩ := He.ba e
  obtain ⟨e8, e9⟩ := He.ba e
  exact ⟨e1, of_decide_eq_true e2, of_decide_eq_true e3, of_decide_eq_true e4, of_decide_eq_true e5, of_decide_eq_true e6, of_decide_eq_true e7, of_decide_eq_true e8, e9⟩
theorem codeB_ok {P : Program} (hf : P.main.file = mf) {C f : Addr} {d : XnD} (ev : xnObs K d = d.val) (hfd : d.f K = f) (e : codeB mf K C (K.lookup f) = true) :
    ∃ (oc : Value) (od : Option Addr) (osl : Array (Option Value)) (qn : Str) (kV doc pm : Value) (an : Option Addr) (cda : Addr) (ct : Value) (cc : Addr), K.lookup f = some ⟨oc, od, .func (PySem.W.ksFn "__init__" qn (defArgs d.st) (defBody d.st) (defScope d.st) .none kV doc pm an (.ref cda) ct cc), osl⟩ ∧
    PySem.W.codeIn K (.ref cda) qn = true ∧ (∃ (ccl : Value) (cdd : Option Addr) (vs : Array Value) (ccs : Array (Option Value)) (file : Str) (tf : Tok), K.lookup cda = some ⟨ccl, cdd, .fields vs, ccs⟩ ∧ vs[2]? = some (.str file tf) ∧ ((P.main.file : Str) == file) = true) ∧
    ∃ (cl : Value) (cld : Option Addr) (csl : Array (Option Value)), K.lookup cc = some ⟨cl, cld, .cell (some (.ref C)), csl⟩ := by
  unfold xnObs at ev
  rw [hfd] at ev
  cases q : K.lookup f with
  | none => rw [q] at e; cases e
  | some o =>
    rw [q] at e ev
    obtain ⟨oc, od, dt, osl⟩ := o
    cases dt with
    | func fd =>
      obtain ⟨n1, n2, n3, n4, n5, n6, n7, n8, n9, n10, n11, n12, n13, n14, n15⟩ := fd
      have ev2 : (some (n1, n2, n3, n4, n5, n6, n7.map (·.1), n8, n15) : XV) = some ((("__init__" : Str), d.qual, defArgs d.st, FuncBody.stmts (defBody d.st), defScope d.st, mainGlobals, [("__class__" : Str)], Value.none, builtinsNs)) := ev
      simp only [Option.some.injEq, Prod.mk.injEq] at ev2
      obtain ⟨h1, h2, h3, h4, h5, h6, h7, h8, h9⟩ := ev2
      subst h1 h2 h3 h4 h5 h6 h8 h9
      unfold codeB at e
      dsimp only at e
      cases n13 with
      | ref cda =>
        cases n7 with
        | nil => cases e
        | cons p r =>
          cases r with
          | cons _ _ => cases e
          | nil =>
            obtain ⟨p1, cc⟩ := p
            have h7' : p1 = ("__class__" : Str) := (List.cons.inj h7).1
            subst h7'
            dsimp only at e
            obtain ⟨e1, e⟩ := He.ba e
            obtain ⟨e2, e3⟩ := He.ba e
            refine ⟨oc, od, osl, _, n9, n10, n11, n12, cda, n14, cc, rfl, e1, ?_, ?_⟩
            · cases q2 : K.lookup cda with
              | none => rw [q2] at e2; cases e2
              | some o2 =>
                rw [q2] at e2
                obtain ⟨c1, c2, c3, c4⟩ := o2
                cases c3 with
                | fields vs =>
                  dsimp only at e2
                  split at e2
                  · rename_i v0 v1 file tf rest hvs
                    refine ⟨c1, c2, vs, c4, file, tf, rfl, ?_, by rw [hf]; exact e2⟩
                    rw [← Array.getElem?_toList, hvs]; rfl
                  · cases e2
                | _ => cases e2
            · cases q3 : K.lookup cc with
              | none => rw [q3] at e3; cases e3
              | some o3 =>
                rw [q3] at e3
                split at e3
                · rename_i z
                  cases z
                  exact ⟨_, _, _, by rw [beq_iff_eq.mp e3]⟩
                · cases e3
      | _ => cases e
    | _ => cases e
theorem SaysX.exc (c : SaysX mf fa fn xn K h) {P : Program} {mg : Str → Option Value} (G : h.Ns mainGlobals mg) (hf : P.main.file = mf) (hs : (P.main.scope.names.lookup ("super" : Str)).isSome = false) {d : XnD} (i : Nat) (hi : xn[i]? = some d) :
    ∃ C, mg d.cls = some (.ref C) ∧ XcK P K d.st d.fld C (d.f K) ∧ KitE K C ∧ C = He.ga K d.cls := by
  have e := List.all_eq_true.mp c.all.2.2 d (List.mem_of_getElem? hi)
  obtain ⟨b, e⟩ := He.ba e
  obtain ⟨e1, e⟩ := He.ba e
  obtain ⟨e2, e⟩ := He.ba e
  obtain ⟨e3, e⟩ := He.ba e
  obtain ⟨e4, e⟩ := He.ba e
  obtain ⟨e5, e⟩ := He.ba e
  obtain ⟨e6, e⟩ := He.ba e
  obtain ⟨e7, e⟩ := He.ba e
  obtain ⟨e8, e⟩ := He.ba e
  obtain ⟨e9, e10⟩ := He.ba e
  have ev : xn.map (xnObs K) = xn.map XnD.val := congrArg (fun z : AlX => z.2.2) c.eq
  have ev2 : (xn.map (xnObs K))[i]? = (xn.map XnD.val)[i]? := by rw [ev]
  rw [List.getElem?_map, List.getElem?_map, hi] at ev2
  have kt := kitB2_ok e8
  refine ⟨d.C K, PySem.W.mg_of c.kin G (of_decide_eq_true e10), ?_, kt, rfl⟩
  refine ⟨?_, kt.hd, of_decide_eq_true e1, of_decide_eq_true e2, of_decide_eq_true e3, of_decide_eq_true e4, e5, of_decide_eq_true e6, of_decide_eq_true e7, codeB_ok hf (Option.some.inj ev2) rfl e9, hs⟩
  by_cases q : d.ovf = true
  · rw [if_pos q] at b
    obtain ⟨b1, b2, b3, b4⟩ := baseB_ok b
    exact ⟨_, _, _, _, PySem.F.excBase_OverflowError, PySem.W.kxs_OverflowError, PySem.F.store_OverflowError, b1, b2, b3, b4⟩
  · rw [if_neg q] at b
    obtain ⟨b1, b2, b3, b4⟩ := baseB_ok b
    exact ⟨_, _, _, _, PySem.F.excBase_ValueError, PySem.W.kxs_ValueError, PySem.F.store_ValueError, b1, b2, b3, b4⟩
end
/-- the walk that a head asks for -/
theorem walk_g {l : PySem.W.OpenLaw} {n k : Nat} {q : Program} {loose : List Str} {XP : (Str → Option Value) → Heap → Prop} {YP : World → Heap → Prop} {d : DefRec} {x : Str} (hn : l.most = some n) (hn2 : n ≤ sizeLine) (hdf : d.params.defaults = []) (hr : Room k callerA)
    (F : ∀ (w : World) (mg : Str → Option Value) (fa : Addr) (h : Heap), YP w h → h.Ns mainGlobals mg → mg d.name = some (.ref fa) → ∃ (K : Fg) (fd : FuncData) (sp : DSp), K.In h ∧ K.lookup sysModules = none ∧ isDict (h.get? sysModules) = true ∧ (∀ (s : Shared) (u : Value), BindsTo s fd ⟨[u], []⟩ [(x, u)]) ∧
      (∀ ns : List Int, ns.length ≤ n → sp emp [.frl (ns.map D.int)] (fun _ d => d = .bl true) noX) ∧ ∀ base : Heap, K.In base → base.Ns mainGlobals mg → FnG l.prog w K mg base (L2.CX l.prog w) k fa fd [x] (spL ⟨K, mg⟩ sp)) :
    PySem.W.WalkO q loose XP YP l.row.toRowW d [] (fun f vs => PySem.call f vs) := by
  refine Att.attach_call hn hdf fun w s₀ s₁ mg mb fa o pm cd doc a vs ns G Y ho hd hcd hmg hobj hints hlen hg => ?_
  obtain ⟨K, fd, sp, KX, hks, hsy, hb, hsp, hF⟩ := F w mg fa _ Y G.T.g hmg
  cases e : s₁.heap.get? sysModules with
  | none => rw [e] at hsy; cases hsy
  | some oS =>
    rw [e] at hsy
    obtain ⟨o1, o2, o3, o4⟩ := oS
    cases o3 with
    | dict es ep => exact law_g KX G.T.g G.T.b G.T.builtins G.T.nolimit hg hks e rfl hobj hints (Nat.le_trans hlen hn2) hr hF hb (hsp ns hlen)
    | _ => cases hsy
end DL

set_option Elab.async false
set_option linter.all false
set_option maxRecDepth 100000
set_option maxHeartbeats 1000000
namespace K70
open PySem L2 DL
def top (i : Nat) : Stmt := PySem.Challenge.pw_handedvotes_k70_errors.main.body.getD i (.Pass ⟨0, 0, 0, 0⟩)
def exs : List Str := ["BadNames", "BadPaper", "BadRoll", "BadRule", "BadCourse", "BadKinds", "BadQuestion", "BadAnswer", "BadNumber", "BadText", "TooMany"]
def fds : List Str := ["value", "value", "place", "place", "value", "value", "value", "place", "value", "line", "most"]
def ex (i : Fin 11) : Str := exs.getD i.1 "BadNames"
def fd (i : Fin 11) : Str := fds.getD i.1 "value"
def subS (c : Str) : D → Option Bool
  | .cls y => if exs.contains c then (if exs.contains y then some (c == y) else if y == "VoteError" then some (c != "TooMany") else none) else none
  | .ty t => if exs.contains c then (if t == "ValueError" then some (c != "TooMany") else if t == "LookupError" then some false else if t == "OverflowError" then some (c == "TooMany") else none) else none
  | _ => none
def attA (c n : Str) : Bool := (exs.zip fds).contains (c, n)
theorem sub_ij : ∀ i j : Fin 11, subS (ex i) (.cls (ex j)) = some (i == j) := by decide +kernel
theorem sub_v : ∀ i : Fin 11, subS (ex i) (.cls "VoteError") = some (decide (i.1 < 10)) := by decide +kernel
theorem sub_ve : ∀ i : Fin 11, subS (ex i) (.ty "ValueError") = some (decide (i.1 < 10)) := by decide +kernel
theorem sub_le : ∀ i : Fin 11, subS (ex i) (.ty "LookupError") = some false := by decide +kernel
theorem sub_oe : ∀ i : Fin 11, subS (ex i) (.ty "OverflowError") = some (decide (i.1 = 10)) := by decide +kernel
theorem att_i : ∀ i : Fin 11, attA (ex i) (fd i) = true := by decide +kernel
theorem fd_p : ∀ i : Fin 11, [i == 2, i == 3, i == 7].any id = true → ("place" : Str) = fd i := by decide +kernel
theorem fd_v : ∀ i : Fin 11, [i == 0, i == 1, i == 4, i == 5, i == 6, i == 8].any id = true → ("value" : Str) = fd i := by decide +kernel
theorem fd_l : ∀ i : Fin 11, (i == 9) = true → ("line" : Str) = fd i := by decide +kernel
theorem fd_m : ∀ i : Fin 11, [i == 2, i == 3, i == 7].any id = false → [i == 0, i == 1, i == 4, i == 5, i == 6, i == 8].any id = false → (i == 9) = false → ("most" : Str) = fd i := by decide +kernel
def vals : List D := [.non, .int 0, .int 5, .int (-1), .str "a", .str "", .tup [], .tup [.int 1, .int 2], .lst [], .dct [], .bl true, .int (10 ^ (30 : Int).toNat)]
theorem sz_of {n : Nat} (h : Nat.ble n 16777216 = true) : n ≤ sizeLine := by
  rw [sizeLine_eq]; exact Nat.le_of_ble_eq_true h
theorem ifb {b : Bool} {p q : Prop} (h1 : b = true → p) (h0 : b = false → q) : if b = true then p else q := by cases b <;> simp_all
theorem at_of {ds : List D} {r : Int} (h0 : 0 ≤ r) (h1 : r < ds.length) : ∃ d, atI ds r = some d ∧ d ∈ ds := by
  have h2 : r.toNat < ds.length := by omega
  refine ⟨ds[r.toNat], ?_, List.getElem_mem h2⟩
  unfold atI ixN
  rw [if_pos h0, if_pos h1]
  exact List.getElem?_eq_getElem h2
abbrev s_law_begun : Stmt := top 14
theorem sc_law_begun : FnScope ["_law_script", "_law_cell"] ["_law_script"] (defScope s_law_begun) := ⟨rfl, rfl, rfl, by decide +kernel, rfl, by decide +kernel, by decide +kernel⟩
abbrev s_law_next : Stmt := top 15
theorem sc_law_next : FnScope ["_law_m", "_law_many", "_law_rest", "_law_at", "_law_bits", "_law_cell", "_law_blend"] ["_law_m", "_law_many"] (defScope s_law_next) := ⟨rfl, rfl, rfl, by decide +kernel, rfl, by decide +kernel, by decide +kernel⟩
abbrev s_law_value : Stmt := top 16
abbrev s_law_kinds : Stmt := top 17
abbrev s_law_field : Stmt := top 18
abbrev s_law : Stmt := top 19
structure Gs (P : Program) (K : PySem.W.Frag) (mg : Str → Option Value) (base : Heap) : Prop where
  g_isinstance : mg "isinstance" = none
  g_len : mg "len" = none
  g_repr : mg "repr" = none
  g_range : mg "range" = none
  g_enumerate : mg "enumerate" = none
  g_min : mg "min" = none
  g_int : mg "int" = none
  g_list : mg "list" = none
  g_ValueError : mg "ValueError" = none
  g_LookupError : mg "LookupError" = none
  g_OverflowError : mg "OverflowError" = none
  g_super : mg "super" = none
  f_law_begun : DefAt K mg "_law_begun" s_law_begun
  f_law_next : DefAt K mg "_law_next" s_law_next
  f_law_value : DefAt K mg "_law_value" s_law_value
  f_law_kinds : DefAt K mg "_law_kinds" s_law_kinds
  f_law_field : DefAt K mg "_law_field" s_law_field
  f_law : DefAt K mg "law" s_law
  k_VoteError : ∃ C, mg "VoteError" = some (.ref C)
  k_BadNames : ∃ C, mg "BadNames" = some (.ref C)
  k_BadPaper : ∃ C, mg "BadPaper" = some (.ref C)
  k_BadRoll : ∃ C, mg "BadRoll" = some (.ref C)
  k_BadRule : ∃ C, mg "BadRule" = some (.ref C)
  k_BadCourse : ∃ C, mg "BadCourse" = some (.ref C)
  k_BadKinds : ∃ C, mg "BadKinds" = some (.ref C)
  k_BadQuestion : ∃ C, mg "BadQuestion" = some (.ref C)
  k_BadAnswer : ∃ C, mg "BadAnswer" = some (.ref C)
  k_BadNumber : ∃ C, mg "BadNumber" = some (.ref C)
  k_BadText : ∃ C, mg "BadText" = some (.ref C)
  k_TooMany : ∃ C, mg "TooMany" = some (.ref C)
  x_BadNames : XcD P K mg "BadNames" "value"
  x_BadPaper : XcD P K mg "BadPaper" "value"
  x_BadRoll : XcD P K mg "BadRoll" "place"
  x_BadRule : XcD P K mg "BadRule" "place"
  x_BadCourse : XcD P K mg "BadCourse" "value"
  x_BadKinds : XcD P K mg "BadKinds" "value"
  x_BadQuestion : XcD P K mg "BadQuestion" "value"
  x_BadAnswer : XcD P K mg "BadAnswer" "place"
  x_BadNumber : XcD P K mg "BadNumber" "value"
  x_BadText : XcD P K mg "BadText" "line"
  x_TooMany : XcD P K mg "TooMany" "most"
  sub : SubK K mg subS
  att : AttK K mg attA
variable {P : Program} {w : World} {K : PySem.W.Frag} {mg : Str → Option Value} {base : Heap}
abbrev sp_law_begun : DSp := spBegun
theorem ok_law_begun (G : Gs P K mg base) : OkG P w K mg base 1 "_law_begun" ["_law_script"] sp_law_begun := by
  obtain ⟨f, fd, hm, F⟩ := G.f_law_begun
  refine ⟨f, fd, hm, F.kp, F.binds (fun _ _ _ _ _ _ us hl => match us, hl with | [_], _ => rfl), L2.FnOk.g ?_⟩
  refine F.okX (k := 0) sc_law_begun (spL_len fun R ds Q E ⟨ns, _, e, _⟩ => by rw [e]; rfl) (fun cdv A outer s H vs Q E hr h => ?_)
  refine ⟨tBegunDef K, pss_one (ps_ret (pe_disp (pps_cons pe_str (pe_callTy call_list_of (by rfl) G.g_list (by decide +kernel) (pa_cons (pv 0) pa_nil))
    (pps_cons pe_str (pe_lc (own := [("_law_cell", 1)]) rfl sc_law_begun.nd (pi_list (pv 0)) (blkOk_by (N := ["_law_script", "_law_cell"]) (sc := defScope s_law_begun) (by decide +kernel)) (fun _ _ _ _ _ => pg_name (i := 1) sc_law_begun.nd rfl (Or.inl rfl)) (fun _ _ _ _ _ => pts_one (pt_cmpR op_ge (pv 1) (pe_op op_pow pe_int pe_int) (nomark _))) (fun _ _ _ _ _ => pv 1))
    (pps_cons pe_str pe_int pps_nil))) rfl rfl (by simp) (by decide))), begun_vc h⟩
abbrev sp_law_next : DSp := spNext
theorem ok_law_next (G : Gs P K mg base) : OkG P w K mg base 1 "_law_next" ["_law_m", "_law_many"] sp_law_next := by
  obtain ⟨f, fd, hm, F⟩ := G.f_law_next
  refine ⟨f, fd, hm, F.kp, F.binds (fun _ _ _ _ _ _ us hl => match us, hl with | [_, _], _ => rfl), L2.FnOk.g ?_⟩
  refine F.okX (k := 0) sc_law_next (spL_len fun R ds Q E ⟨a, n, k, _, e, _⟩ => by rw [e]; rfl) (fun cdv A outer s H vs Q E hr h => ?_)
  have hu := hu_of hr
  have hu2 := hr.units
  refine ⟨tNextDef K, pss_cons (ps_while (passes_of rfl) (PW.pt (pw_and (pt_cmpR (op_neD hu2) (pe_dget hu (pv 0) pe_str (fun _ _ => rfl)) (pe_lst pa_nil) (nomark _))
        (pw_and1 (pt_cmpR op_eq (pe_ix ix_list (pe_dget hu (pv 0) pe_str (fun _ _ => rfl)) pe_int (fun _ _ => rfl)) pe_int (nomark _)))))
      (pss_one (ps_dput hu (pv 0) pe_str (pe_slice sl_list (pe_dget hu (pv 0) pe_str (fun _ _ => rfl)) (po_some pe_int) po_none) rfl)))
    (pss_cons (ps_if (pt_cmpR (op_neD hu2) (pe_dget hu (pv 0) pe_str (fun _ _ => rfl)) (pe_lst pa_nil) (nomark _))
      (pss_cons (ps_set (i := 2) sc_law_next.nd rfl (Or.inl rfl) (pe_ix ix_list (pe_dget hu (pv 0) pe_str (fun _ _ => rfl)) pe_int (fun _ _ => rfl)))
      (pss_cons (ps_asg (pe_op op_fdiv (pv 2) (pv 1)) (pg_sub (pe_dget hu (pv 0) pe_str (fun _ _ => rfl)) pe_int set_list))
      (pss_one (ps_ret (pe_op op_mod (pe_callTy call_int1 (by rfl) G.g_int (by decide +kernel) (pa_cons (pv 2) pa_nil)) (pv 1)))))) pss_nil)
    (pss_cons (ps_par (i := 3) (j := 4) (by rfl) sc_law_next.nd rfl rfl (by decide) rfl rfl (pa_cons (pe_op op_add (pe_dget hu (pv 0) pe_str (fun _ _ => rfl)) pe_int) (pa_cons (pe_dget hu (pv 0) pe_str (fun _ _ => rfl)) pa_nil)) (by rfl))
    (pss_cons (ps_dput hu (pv 0) pe_str (pv 3) rfl)
    (pss_cons (ps_set (i := 5) sc_law_next.nd rfl (Or.inl rfl) (pe_ifExp (pt_cmpR (op_neD hu2) (pv 4) (pe_lst pa_nil) (nomark _))
        (pe_callTy call_int1 (by rfl) G.g_int (by decide +kernel) (pa_cons (pe_ix ix_list (pv 4) (pe_op op_mod (pe_callTy call_int1 (by rfl) G.g_int (by decide +kernel) (pa_cons (pe_op op_add (pe_op op_mul (pv 3) (pv 3)) (pe_op op_fdiv (pv 3) pe_int)) pa_nil)) (pe_callB call_len_seq (by rfl) G.g_len PySem.boot_len (pa_cons (pv 4) pa_nil))) (fun _ _ => rfl)) pa_nil)) pe_int))
    (pss_cons (ps_set (i := 6) sc_law_next.nd rfl (Or.inl rfl) (pe_op op_mod (pe_callTy call_int1 (by rfl) G.g_int (by decide +kernel) (pa_cons (pe_op op_add (pe_op op_add (pe_op op_mul (pv 5) pe_int) (pe_op op_mul (pv 3) pe_int)) (pe_op op_mul (pe_op op_mul pe_int (pv 3)) (pv 3))) pa_nil)) pe_int))
    (pss_one (ps_ret (pe_op op_mod (pe_callTy call_int1 (by rfl) G.g_int (by decide +kernel) (pa_cons (pe_op op_fdiv (pe_op op_mod (pe_callTy call_int1 (by rfl) G.g_int (by decide +kernel) (pa_cons (pe_op op_add (pe_op op_mul (pv 6) pe_int) (pe_op op_mul pe_int (pv 3))) pa_nil)) pe_int) pe_int) pa_nil)) (pv 1))))))))), next_vc h⟩

def sp_law_value : DSp := fun R ds Q _ => ∃ (a : Addr) (n : Int), R = drawR a n ∧ ds = [.ref a] ∧ n < 10 ^ 15 ∧ ∀ q ∈ vals, Q (drawR a (n + 1)) q
theorem sc_law_value : FnScope ["_law_m"] ["_law_m"] (defScope s_law_value) := ⟨rfl, rfl, rfl, by decide +kernel, rfl, by decide +kernel, by decide +kernel⟩
def t_law_value : DSt := (dRet (dBin fIx (dLst (dCons (dC .non) (dCons (dC (.int 0)) (dCons (dC (.int 5)) (dCons (dUn fNeg (dC (.int 1))) (dCons (dC (.str "a")) (dCons (dC (.str "")) (dCons (dTup dNil) (dCons (dTup (dCons (dC (.int 1)) (dCons (dC (.int 2)) dNil))) (dCons (dLst dNil) (dCons (dC (.dct [])) (dCons (dC (.bl true)) (dCons (dBin fPow (dC (.int 10)) (dC (.int 30))) dNil))))))))))))) (dCall sp_law_next (dCons (dVar 0) (dCons (dC (.int 12)) dNil)))))
theorem len_law_value (R : Res) (ds : List D) (Q : DQ) (E : DX) (h : sp_law_value R ds Q E) : ds.length = 1 := by obtain ⟨a, n, _, rfl, _⟩ := h; rfl
theorem vc_law_value (R : Res) (ds : List D) (Q : DQ) (E : DX) (h : sp_law_value R ds Q E) : t_law_value R { nx := fun R _ => Q R .non, rt := Q, ex := fun R c fs _ => E R c fs } (startD 1 ds) := by
  obtain ⟨a, n, rfl, rfl, hn, hq⟩ := h
  refine ⟨Nat.zero_le _, sz_of rfl, Nat.zero_le _, ⟨by decide, by decide, by decide⟩, sz_of rfl, _, rfl, rfl, a, n, 12, rfl, rfl, by decide, by decide, hn, fun r h0 h1 => ?_⟩
  obtain ⟨d, e, hd⟩ := at_of (ds := vals) h0 h1
  exact ⟨d, e, hq d hd⟩
theorem fg_law_value (G : Gs P K mg base) {f : Addr} {fd : FuncData} (F : Fun K "_law_value" "_law_value" s_law_value f fd) : FnG P w K mg base (L2.CX P w) 2 f fd ["_law_m"] (spL ⟨K, mg⟩ sp_law_value) :=
  fn_gd (k := 1) F sc_law_value len_law_value fun cdv A outer s H E hr hgd => ⟨t_law_value, by
    have hu := hu_room hr
    exact (dss_one (ds_ret (de_ix (de_lst (da_cons de_non (da_cons de_int (da_cons de_int (da_cons (de_neg de_int) (da_cons de_str (da_cons de_str (da_cons (de_tup da_nil) (da_cons (de_tup (da_cons de_int (da_cons de_int da_nil))) (da_cons (de_lst da_nil) (da_cons de_dct0 (da_cons de_bl (da_cons (de_pow de_int de_int) da_nil))))))))))))) (de_og (ok_law_next G) hr (by decide) hgd rfl (takes_of rfl rfl rfl rfl) (da_cons (de_var 0) (da_cons de_int da_nil)))))), vc_law_value⟩
theorem ok_law_value (G : Gs P K mg base) : OkG P w K mg base 2 "_law_value" ["_law_m"] sp_law_value :=
  let ⟨_, _, hm, F⟩ := G.f_law_value
  ⟨_, _, hm, F.kp, F.binds (fun _ _ _ _ _ _ us hl => match us, hl with | [_], _ => rfl), fg_law_value G F⟩
def sp_law_kinds : DSp := fun R ds Q _ => ∃ (i : Fin 11) (fs : List (Str × D)), ds = [.exc (ex i) fs] ∧ Q R (.lst [.bl (i == 0), .bl (i == 1), .bl (i == 2), .bl (i == 3), .bl (i == 4), .bl (i == 5), .bl (i == 6), .bl (i == 7), .bl (i == 8), .bl (i == 9), .bl (i == 10)])
theorem sc_law_kinds : FnScope ["_law_one", "_law_found"] ["_law_one"] (defScope s_law_kinds) := ⟨rfl, rfl, rfl, by decide +kernel, rfl, by decide +kernel, by decide +kernel⟩
def t_law_kinds : DSt := (dSeq (dSet 1 (dLst (dCons (dCB (fIsiE subS) (dCons (dVar 0) (dCons (dC (.cls "BadNames")) dNil))) (dCons (dCB (fIsiE subS) (dCons (dVar 0) (dCons (dC (.cls "BadPaper")) dNil))) (dCons (dCB (fIsiE subS) (dCons (dVar 0) (dCons (dC (.cls "BadRoll")) dNil))) (dCons (dCB (fIsiE subS) (dCons (dVar 0) (dCons (dC (.cls "BadRule")) dNil))) dNil)))))) (dSeq (dSet 1 (dBin fAdd (dVar 1) (dLst (dCons (dCB (fIsiE subS) (dCons (dVar 0) (dCons (dC (.cls "BadCourse")) dNil))) (dCons (dCB (fIsiE subS) (dCons (dVar 0) (dCons (dC (.cls "BadKinds")) dNil))) (dCons (dCB (fIsiE subS) (dCons (dVar 0) (dCons (dC (.cls "BadQuestion")) dNil))) dNil)))))) (dSeq (dSet 1 (dBin fAdd (dVar 1) (dLst (dCons (dCB (fIsiE subS) (dCons (dVar 0) (dCons (dC (.cls "BadAnswer")) dNil))) (dCons (dCB (fIsiE subS) (dCons (dVar 0) (dCons (dC (.cls "BadNumber")) dNil))) (dCons (dCB (fIsiE subS) (dCons (dVar 0) (dCons (dC (.cls "BadText")) dNil))) dNil)))))) (dRet (dBin fAdd (dVar 1) (dLst (dCons (dCB (fIsiE subS) (dCons (dVar 0) (dCons (dC (.cls "TooMany")) dNil))) dNil)))))))
theorem len_law_kinds (R : Res) (ds : List D) (Q : DQ) (E : DX) (h : sp_law_kinds R ds Q E) : ds.length = 1 := by obtain ⟨i, fs, rfl, _⟩ := h; rfl
theorem vc_law_kinds (R : Res) (ds : List D) (Q : DQ) (E : DX) (h : sp_law_kinds R ds Q E) : t_law_kinds R { nx := fun R _ => Q R .non, rt := Q, ex := fun R c fs _ => E R c fs } (startD 2 ds) := by
  obtain ⟨i, fs, rfl, hq⟩ := h
  have a0 := sub_ij i 0
  refine ⟨_, rfl, rfl, _, sub_ij i 0, _, rfl, rfl, _, sub_ij i 1, _, rfl, rfl, _, sub_ij i 2, _, rfl, rfl, _, sub_ij i 3, sz_of rfl, ?_⟩
  refine ⟨_, rfl, rfl, _, rfl, rfl, _, sub_ij i 4, _, rfl, rfl, _, sub_ij i 5, _, rfl, rfl, _, sub_ij i 6, sz_of rfl, sz_of rfl, ?_⟩
  refine ⟨_, rfl, rfl, _, rfl, rfl, _, sub_ij i 7, _, rfl, rfl, _, sub_ij i 8, _, rfl, rfl, _, sub_ij i 9, sz_of rfl, sz_of rfl, ?_⟩
  exact ⟨_, rfl, rfl, _, rfl, rfl, _, sub_ij i 10, sz_of rfl, sz_of rfl, hq⟩
theorem fg_law_kinds (G : Gs P K mg base) {f : Addr} {fd : FuncData} (F : Fun K "_law_kinds" "_law_kinds" s_law_kinds f fd) : FnG P w K mg base (L2.CX P w) 1 f fd ["_law_one"] (spL ⟨K, mg⟩ sp_law_kinds) :=
  fn_gd (k := 0) F sc_law_kinds len_law_kinds fun cdv A outer s H E hr hgd => ⟨t_law_kinds, by
    have hu := hu_room hr
    exact (dss_cons (ds_set (i := 1) sc_law_kinds.nd rfl (by first | exact Or.inl rfl | exact Or.inr rfl) (de_lst (da_cons (de_isiE G.sub rfl G.g_isinstance (da_cons (de_var 0) (da_cons (de_cls rfl G.k_BadNames) da_nil))) (da_cons (de_isiE G.sub rfl G.g_isinstance (da_cons (de_var 0) (da_cons (de_cls rfl G.k_BadPaper) da_nil))) (da_cons (de_isiE G.sub rfl G.g_isinstance (da_cons (de_var 0) (da_cons (de_cls rfl G.k_BadRoll) da_nil))) (da_cons (de_isiE G.sub rfl G.g_isinstance (da_cons (de_var 0) (da_cons (de_cls rfl G.k_BadRule) da_nil))) da_nil)))))) (dss_cons (ds_set (i := 1) sc_law_kinds.nd rfl (by first | exact Or.inl rfl | exact Or.inr rfl) (de_add (de_var 1) (de_lst (da_cons (de_isiE G.sub rfl G.g_isinstance (da_cons (de_var 0) (da_cons (de_cls rfl G.k_BadCourse) da_nil))) (da_cons (de_isiE G.sub rfl G.g_isinstance (da_cons (de_var 0) (da_cons (de_cls rfl G.k_BadKinds) da_nil))) (da_cons (de_isiE G.sub rfl G.g_isinstance (da_cons (de_var 0) (da_cons (de_cls rfl G.k_BadQuestion) da_nil))) da_nil)))))) (dss_cons (ds_set (i := 1) sc_law_kinds.nd rfl (by first | exact Or.inl rfl | exact Or.inr rfl) (de_add (de_var 1) (de_lst (da_cons (de_isiE G.sub rfl G.g_isinstance (da_cons (de_var 0) (da_cons (de_cls rfl G.k_BadAnswer) da_nil))) (da_cons (de_isiE G.sub rfl G.g_isinstance (da_cons (de_var 0) (da_cons (de_cls rfl G.k_BadNumber) da_nil))) (da_cons (de_isiE G.sub rfl G.g_isinstance (da_cons (de_var 0) (da_cons (de_cls rfl G.k_BadText) da_nil))) da_nil)))))) (dss_one (ds_ret (de_add (de_var 1) (de_lst (da_cons (de_isiE G.sub rfl G.g_isinstance (da_cons (de_var 0) (da_cons (de_cls rfl G.k_TooMany) da_nil))) da_nil)))))))), vc_law_kinds⟩
theorem ok_law_kinds (G : Gs P K mg base) : OkG P w K mg base 1 "_law_kinds" ["_law_one"] sp_law_kinds :=
  let ⟨_, _, hm, F⟩ := G.f_law_kinds
  ⟨_, _, hm, F.kp, F.binds (fun _ _ _ _ _ _ us hl => match us, hl with | [_], _ => rfl), fg_law_kinds G F⟩
def sp_law_field : DSp := fun R ds Q _ => ∃ (i : Fin 11) (q : D), ds = [.exc (ex i) [(fd i, q)]] ∧ Q R q
theorem sc_law_field : FnScope ["_law_one"] ["_law_one"] (defScope s_law_field) := ⟨rfl, rfl, rfl, by decide +kernel, rfl, by decide +kernel, by decide +kernel⟩
def t_law_field : DSt := (dSeq (dIfS (dTest (dCB (fIsiE subS) (dCons (dVar 0) (dCons (dTup (dCons (dC (.cls "BadRoll")) (dCons (dC (.cls "BadRule")) (dCons (dC (.cls "BadAnswer")) dNil)))) dNil)))) (dRet (dAtt attA "place" (dVar 0))) dNext) (dSeq (dIfS (dTest (dCB (fIsiE subS) (dCons (dVar 0) (dCons (dTup (dCons (dC (.cls "BadNames")) (dCons (dC (.cls "BadPaper")) (dCons (dC (.cls "BadCourse")) (dCons (dC (.cls "BadKinds")) (dCons (dC (.cls "BadQuestion")) (dCons (dC (.cls "BadNumber")) dNil))))))) dNil)))) (dRet (dAtt attA "value" (dVar 0))) dNext) (dRet (dIf (dTest (dCB (fIsiE subS) (dCons (dVar 0) (dCons (dC (.cls "BadText")) dNil)))) (dAtt attA "line" (dVar 0)) (dAtt attA "most" (dVar 0))))))
theorem len_law_field (R : Res) (ds : List D) (Q : DQ) (E : DX) (h : sp_law_field R ds Q E) : ds.length = 1 := by obtain ⟨i, fs, rfl, _⟩ := h; rfl
theorem vc_law_field (R : Res) (ds : List D) (Q : DQ) (E : DX) (h : sp_law_field R ds Q E) : t_law_field R { nx := fun R _ => Q R .non, rt := Q, ex := fun R c fs _ => E R c fs } (startD 1 ds) := by
  obtain ⟨i, q, rfl, hq⟩ := h
  have key : ∀ n : Str, n = fd i → ∃ c fs v, D.exc (ex i) [(fd i, q)] = .exc c fs ∧ attA c n = true ∧ fs.lookup n = some v ∧ Q R v := fun n hn => by
    subst hn
    refine ⟨_, _, q, rfl, att_i i, ?_, hq⟩
    rw [List.lookup_cons, beq_self_eq_true]
  refine ⟨_, rfl, rfl, sz_of rfl, by simp, [i == 2, i == 3, i == 7], ?_, _, rfl, ?_⟩
  · simp only [List.map]
    rw [show subS (ex i) (.cls "BadRoll") = _ from sub_ij i 2, show subS (ex i) (.cls "BadRule") = _ from sub_ij i 3, show subS (ex i) (.cls "BadAnswer") = _ from sub_ij i 7]
  refine ifb (fun hb => ?_) (fun hb => ?_)
  · exact ⟨_, rfl, rfl, key _ (fd_p i hb)⟩
  · refine ⟨_, rfl, rfl, sz_of rfl, by simp, [i == 0, i == 1, i == 4, i == 5, i == 6, i == 8], ?_, _, rfl, ?_⟩
    · simp only [List.map]
      rw [show subS (ex i) (.cls "BadNames") = _ from sub_ij i 0, show subS (ex i) (.cls "BadPaper") = _ from sub_ij i 1, show subS (ex i) (.cls "BadCourse") = _ from sub_ij i 4, show subS (ex i) (.cls "BadKinds") = _ from sub_ij i 5,
        show subS (ex i) (.cls "BadQuestion") = _ from sub_ij i 6, show subS (ex i) (.cls "BadNumber") = _ from sub_ij i 8]
    refine ifb (fun hc => ?_) (fun hc => ?_)
    · exact ⟨_, rfl, rfl, key _ (fd_v i hc)⟩
    · refine ⟨_, rfl, rfl, _, sub_ij i 9, _, rfl, ?_⟩
      refine ifb (fun hd => ?_) (fun hd => ?_)
      · exact ⟨_, rfl, rfl, key _ (fd_l i hd)⟩
      · exact ⟨_, rfl, rfl, key _ (fd_m i hb hc hd)⟩
theorem fg_law_field (G : Gs P K mg base) {f : Addr} {fd : FuncData} (F : Fun K "_law_field" "_law_field" s_law_field f fd) : FnG P w K mg base (L2.CX P w) 1 f fd ["_law_one"] (spL ⟨K, mg⟩ sp_law_field) :=
  fn_gd (k := 0) F sc_law_field len_law_field fun cdv A outer s H E hr hgd => ⟨t_law_field, by
    have hu := hu_room hr
    exact (dss_cons (ds_if (dt_val (de_isiE G.sub rfl G.g_isinstance (da_cons (de_var 0) (da_cons (de_tup (da_cons (de_cls rfl G.k_BadRoll) (da_cons (de_cls rfl G.k_BadRule) (da_cons (de_cls rfl G.k_BadAnswer) da_nil)))) da_nil)))) (dss_one (ds_ret (de_att G.att (de_var 0)))) dss_nil) (dss_cons (ds_if (dt_val (de_isiE G.sub rfl G.g_isinstance (da_cons (de_var 0) (da_cons (de_tup (da_cons (de_cls rfl G.k_BadNames) (da_cons (de_cls rfl G.k_BadPaper) (da_cons (de_cls rfl G.k_BadCourse) (da_cons (de_cls rfl G.k_BadKinds) (da_cons (de_cls rfl G.k_BadQuestion) (da_cons (de_cls rfl G.k_BadNumber) da_nil))))))) da_nil)))) (dss_one (ds_ret (de_att G.att (de_var 0)))) dss_nil) (dss_one (ds_ret (de_if (dt_val (de_isiE G.sub rfl G.g_isinstance (da_cons (de_var 0) (da_cons (de_cls rfl G.k_BadText) da_nil)))) (de_att G.att (de_var 0)) (de_att G.att (de_var 0))))))), vc_law_field⟩
theorem ok_law_field (G : Gs P K mg base) : OkG P w K mg base 1 "_law_field" ["_law_one"] sp_law_field :=
  let ⟨_, _, hm, F⟩ := G.f_law_field
  ⟨_, _, hm, F.kp, F.binds (fun _ _ _ _ _ _ us hl => match us, hl with | [_], _ => rfl), fg_law_field G F⟩
def sp_law : DSp := fun R ds Q _ => ∃ ns : List Int, R = emp ∧ ds = [.frl (ns.map D.int)] ∧ ns.length ≤ 63 ∧ ∀ R, Q R (.bl true)
theorem sc_law : FnScope ["_law_script", "_law_m", "_law_turn", "_law_q", "_law_some", "_law_far", "_law_at", "_law_one", "_law_k", "_law_told"] ["_law_script"] (defScope s_law) := ⟨rfl, rfl, rfl, by decide +kernel, rfl, by decide +kernel, by decide +kernel⟩
def t_law_b1 : DSt := (dSeq (dIfS (dOr (dTest (dBin fNe (dCB fRepr (dCons (dCall sp_law_field (dCons (dVar 7) dNil)) dNil)) (dCB fRepr (dCons (dVar 3) dNil)))) (dTest (dBin fNe (dCB fRepr (dCons (dCall sp_law_field (dCons (dBin fIx (dVar 5) (dVar 6)) dNil)) dNil)) (dCB fRepr (dCons (dVar 3) dNil))))) (dRet (dC (.bl false))) dNext) (dSeq (dIfS (dOr (dTest (dBin fNe (dCall sp_law_kinds (dCons (dVar 7) dNil)) (dLc (dRange1 (dCons (dC (.int 11)) dNil)) (gdName 8) dYes (dBin fEq (dVar 8) (dVar 6)) [8]))) (dTest (dBin fNe (dCall sp_law_kinds (dCons (dBin fIx (dVar 5) (dVar 6)) dNil)) (dCall sp_law_kinds (dCons (dVar 7) dNil))))) (dRet (dC (.bl false))) dNext) (dSeq (dSet 9 (dLst (dCons (dCB (fIsiE subS) (dCons (dVar 7) (dCons (dC (.cls "VoteError")) dNil))) (dCons (dCB (fIsiE subS) (dCons (dVar 7) (dCons (dC (.ty "ValueError")) dNil))) (dCons (dCB (fIsiE subS) (dCons (dVar 7) (dCons (dC (.ty "LookupError")) dNil))) dNil))))) (dIfS (dTest (dBin fNe (dBin fAdd (dVar 9) (dLst (dCons (dCB (fIsiE subS) (dCons (dVar 7) (dCons (dC (.ty "OverflowError")) dNil))) dNil))) (dLst (dCons (dBin fLt (dVar 6) (dC (.int 10))) (dCons (dBin fLt (dVar 6) (dC (.int 10))) (dCons (dC (.bl false)) (dCons (dBin fEq (dVar 6) (dC (.int 10))) dNil))))))) (dRet (dC (.bl false))) dNext))))
def t_law_b2 : DSt := (dSeq (dSet 3 (dCall sp_law_value (dCons (dVar 1) dNil))) (dSeq (dSet 4 (dLst (dCons (dMk "BadNames" "value" (dVar 3)) (dCons (dMk "BadPaper" "value" (dVar 3)) (dCons (dMk "BadRoll" "place" (dVar 3)) (dCons (dMk "BadRule" "place" (dVar 3)) (dCons (dMk "BadCourse" "value" (dVar 3)) (dCons (dMk "BadKinds" "value" (dVar 3)) (dCons (dMk "BadQuestion" "value" (dVar 3)) dNil))))))))) (dSeq (dSet 4 (dBin fAdd (dVar 4) (dLst (dCons (dMk "BadAnswer" "place" (dVar 3)) (dCons (dMk "BadNumber" "value" (dVar 3)) (dCons (dMk "BadText" "line" (dVar 3)) (dCons (dMk "TooMany" "most" (dVar 3)) dNil))))))) (dSeq (dSet 5 (dLst (dCons (dMk "BadNames" "value" (dVar 3)) (dCons (dMk "BadPaper" "value" (dVar 3)) (dCons (dMk "BadRoll" "place" (dVar 3)) (dCons (dMk "BadRule" "place" (dVar 3)) (dCons (dMk "BadCourse" "value" (dVar 3)) dNil))))))) (dSeq (dOwn 5 (fCat (dVar 5) (dLst (dCons (dMk "BadKinds" "value" (dVar 3)) (dCons (dMk "BadQuestion" "value" (dVar 3)) (dCons (dMk "BadAnswer" "place" (dVar 3)) (dCons (dMk "BadNumber" "value" (dVar 3)) (dCons (dMk "BadText" "line" (dVar 3)) dNil)))))))) (dSeq (dApp 5 (dMk "TooMany" "most" (dVar 3))) (dGive 5 (dFor (dEnum (dCons (dVar 4) dNil)) (gd2 6 7) t_law_b1))))))))
def t_law : DSt := (dSeq (dSet 1 (dCall sp_law_begun (dCons (dVar 0) dNil))) (dSeq (dFor (dRange1 (dCons (dBin fAdd (dC (.int 2)) (dCB fMin2 (dCons (dCB fLen (dCons (dVar 0) dNil)) (dCons (dC (.int 6)) dNil)))) dNil)) (gdName 2) t_law_b2) (dRet (dC (.bl true)))))
theorem len_law (R : Res) (ds : List D) (Q : DQ) (E : DX) (h : sp_law R ds Q E) : ds.length = 1 := by obtain ⟨ns, _, rfl, _⟩ := h; rfl
/-- the exceptions that are made of q -/
def made (q : D) : List D := [.exc "BadNames" [("value", q)], .exc "BadPaper" [("value", q)], .exc "BadRoll" [("place", q)], .exc "BadRule" [("place", q)], .exc "BadCourse" [("value", q)], .exc "BadKinds" [("value", q)], .exc "BadQuestion" [("value", q)], .exc "BadAnswer" [("place", q)], .exc "BadNumber" [("value", q)], .exc "BadText" [("line", q)], .exc "TooMany" [("most", q)]]
theorem made_at (q : D) (i : Fin 11) : atI (made q) (i.1 : Int) = some (.exc (ex i) [(fd i, q)]) := by
  obtain ⟨n, h⟩ := i
  match n, h with
  | 0, _ => rfl | 1, _ => rfl | 2, _ => rfl | 3, _ => rfl | 4, _ => rfl | 5, _ => rfl | 6, _ => rfl | 7, _ => rfl | 8, _ => rfl | 9, _ => rfl | 10, _ => rfl
abbrev kindsOf (i : Fin 11) : List D := [.bl (i == 0), .bl (i == 1), .bl (i == 2), .bl (i == 3), .bl (i == 4), .bl (i == 5), .bl (i == 6), .bl (i == 7), .bl (i == 8), .bl (i == 9), .bl (i == 10)]
structure Good (q : D) : Prop where
  rp : q.rp = true
  dp : q.py.depth ≤ 64
  sh : q.py.shown.length ≤ sizeLine
  ow : q.isOwn = false
  ft : (D.str q.py.shown).fit = true
theorem good_all : ∀ q ∈ vals, Good q := by
  intro q hq
  unfold vals at hq
  simp only [List.mem_cons, List.not_mem_nil, or_false] at hq
  rcases hq with rfl | rfl | rfl | rfl | rfl | rfl | rfl | rfl | rfl | rfl | rfl | rfl <;> exact ⟨by decide +kernel, by decide +kernel, by rw [sizeLine_eq]; decide +kernel, rfl, by decide +kernel⟩
theorem eqv_str (x : Str) : D.eqv (.str x) (.str x) = true := by
  show PyData.eqv (.str x) (.str x) = true
  simp [PyData.eqv]
abbrev env10 (sc m tu q : D) (x6 x7 x8 x9 : Option D) : DL.Env := [some sc, some m, some tu, some q, some (.lst (made q)), some (.lst (made q)), x6, x7, x8, x9]
theorem fit_int (x : Int) : (D.int x).fit = true := by
  have h : SeqAt.shaped (PyData.int x) = true := by simp [SeqAt.shaped, PyData.canLay0, PyData.depth]
  show (true && SeqAt.shaped (PyData.int x)) = true
  rw [h]; rfl
theorem eqv_int (x y : Int) : D.eqv (.int x) (.int y) = decide (x = y) := by
  show PyData.eqv (.int x) (.int y) = _
  simp only [PyData.eqv]
  rfl
def eqs (i : Int) (n : Nat) : List D := (List.range n).map fun k => .bl (decide ((0 : Int) + (k : Nat) = i))
theorem lc_eqs {ρ : DL.Env} {i : Int} {R : Res} (h8 : 8 < ρ.length) (h6 : ρ[6]? = some (some (.int i))) : ∀ (ks : List Int) (acc : List D) (Q : Res → List D → Prop), acc.length + ks.length ≤ 100 → Q R (acc ++ ks.map fun k => .bl (decide (k = i))) → lcGo (gdName 8) dYes (dBin fEq (dVar 8) (dVar 6)) ρ (ks.map D.int) acc R Q
  | [], acc, Q, _, h => by rw [List.map_nil, List.append_nil] at h; exact h
  | k :: r, acc, Q, hl, h => by
    refine ⟨.int k, List.getElem?_set_self h8, rfl, .int i, ?_, rfl, fit_int k, fit_int i, ?_, lc_eqs h8 h6 r _ Q ?_ ?_⟩
    · rw [List.getElem?_set_ne (by decide)]; exact h6
    · rw [sizeLine_eq]; simp only [List.length_cons] at hl; omega
    · simp only [List.length_append, List.length_cons, List.length_nil] at hl ⊢; omega
    · rw [eqv_int, Bool.bne_false, List.append_assoc]; exact h
theorem ne_lst {x : List D} {d : D} {r : List D} {Q : D → Prop} (h : (D.lst x).fit = true ∧ (D.lst (d :: r)).fit = true ∧ D.eqv (.lst x) (.lst (d :: r)) = true) (hq : Q (.bl false)) : fNe (.lst x) (.lst (d :: r)) Q := by
  refine ⟨h.1, h.2.1, ?_⟩
  rw [h.2.2]; exact hq
theorem kinds_eq : ∀ i : Fin 11, (D.lst (kindsOf i)).fit = true ∧ (D.lst (eqs i.1 11)).fit = true ∧ D.eqv (.lst (kindsOf i)) (.lst (eqs i.1 11)) = true := by decide +kernel
theorem kinds_self : ∀ i : Fin 11, (D.lst (kindsOf i)).fit = true ∧ (D.lst (kindsOf i)).fit = true ∧ D.eqv (.lst (kindsOf i)) (.lst (kindsOf i)) = true := by decide +kernel
abbrev toldOf (i : Fin 11) : List D := [.bl (decide (i.1 < 10)), .bl (decide (i.1 < 10)), .bl false] ++ [.bl (decide (i.1 = 10))]
abbrev wantOf (i : Fin 11) : List D := [.bl (decide ((i.1 : Int) < 10)), .bl (decide ((i.1 : Int) < 10)), .bl false, .bl (D.eqv (.int i.1) (.int 10) != false)]
theorem told_eq : ∀ i : Fin 11, (D.lst (toldOf i)).fit = true ∧ (D.lst (wantOf i)).fit = true ∧ D.eqv (.lst (toldOf i)) (.lst (wantOf i)) = true := by decide +kernel
/-- one turn of the inner loop -/
theorem turn_ok (i : Fin 11) {sc m tu q : D} (hg : Good q) {x6 x7 x8 x9 : Option D} {R : Res} {De : DEnds} (hx : ∀ x6 x7 x8 x9, De.nx R (env10 sc m tu q x6 x7 x8 x9)) : gd2 6 7 (.tpw [.int i.1, .exc (ex i) [(fd i, q)]]) (env10 sc m tu q x6 x7 x8 x9) fun ρ => t_law_b1 R De ρ := by
  refine ⟨_, .inr rfl, _, _, rfl, _, _, rfl, rfl, ?_⟩
  refine ⟨_, rfl, rfl, i, q, rfl, hg.rp, hg.dp, hg.sh, _, rfl, hg.ow, hg.rp, hg.dp, hg.sh, hg.ft, hg.ft, _, rfl, ?_⟩
  rw [eqv_str]
  refine ⟨_, rfl, rfl, _, rfl, rfl, _, made_at q i, i, q, rfl, hg.rp, hg.dp, hg.sh, _, rfl, hg.ow, hg.rp, hg.dp, hg.sh, hg.ft, hg.ft, _, rfl, ?_⟩
  rw [eqv_str]
  refine ⟨_, rfl, rfl, i, _, rfl, 11, rfl, by decide, by decide, ?_⟩
  refine lc_eqs (i := i.1) (Nat.le_of_ble_eq_true rfl) rfl [0, 1, 2, 3, 4, 5, 6, 7, 8, 9, 10] [] _ (by decide) ?_
  refine ne_lst (kinds_eq i) ⟨_, rfl, ?_⟩
  refine ⟨_, rfl, rfl, _, rfl, rfl, _, made_at q i, i, _, rfl, _, rfl, rfl, i, _, rfl, ne_lst (kinds_self i) ⟨_, rfl, ?_⟩⟩
  refine ⟨_, rfl, rfl, _, sub_v i, _, rfl, rfl, _, sub_ve i, _, rfl, rfl, _, sub_le i, sz_of rfl, ?_⟩
  refine ⟨_, rfl, rfl, _, rfl, rfl, _, sub_oe i, sz_of rfl, sz_of rfl, _, rfl, rfl, _, rfl, rfl, _, rfl, rfl, fit_int _, fit_int _, sz_of rfl, ne_lst (told_eq i) ⟨_, rfl, ?_⟩⟩
  exact hx _ _ _ _
theorem inner_ok {sc m tu q : D} (hg : Good q) {x6 x7 x8 x9 : Option D} {R : Res} {De : DEnds} (hx : ∀ x6 x7 x8 x9, De.nx R (env10 sc m tu q x6 x7 x8 x9)) : forGo (gd2 6 7) t_law_b1 De (enumD 0 (made q)) R (env10 sc m tu q x6 x7 x8 x9) :=
  turn_ok 0 hg (fun _ _ _ _ => turn_ok 1 hg (fun _ _ _ _ => turn_ok 2 hg (fun _ _ _ _ => turn_ok 3 hg (fun _ _ _ _ => turn_ok 4 hg (fun _ _ _ _ => turn_ok 5 hg (fun _ _ _ _ => turn_ok 6 hg (fun _ _ _ _ => turn_ok 7 hg (fun _ _ _ _ => turn_ok 8 hg (fun _ _ _ _ => turn_ok 9 hg (fun _ _ _ _ => turn_ok 10 hg (hx)))))))))))
theorem outer_ok {a : Addr} {sc : D} {De : DEnds} (hx : ∀ R ρ, De.nx R ρ) : ∀ (ks : List Int) (n : Int) (x2 x3 x4 x5 x6 x7 x8 x9 : Option D), n + ks.length ≤ 1000 → forGo (gdName 2) t_law_b2 De (ks.map D.int) (drawR a n) [some sc, some (.ref a), x2, x3, x4, x5, x6, x7, x8, x9]
  | [], n, x2, x3, x4, x5, x6, x7, x8, x9, _ => hx _ _
  | k :: r, n, x2, x3, x4, x5, x6, x7, x8, x9, hn => by
    have hn' : n + ((r.length : Nat) + 1) ≤ 1000 := hn
    refine ⟨_, rfl, rfl, a, n, rfl, rfl, by omega, fun q hq => ?_⟩
    have hg := good_all q hq
    refine ⟨_, rfl, hg.ow, _, rfl, hg.ow, _, rfl, hg.ow, _, rfl, hg.ow, _, rfl, hg.ow, _, rfl, hg.ow, _, rfl, hg.ow, sz_of rfl, ?_⟩
    refine ⟨_, rfl, rfl, _, rfl, hg.ow, _, rfl, hg.ow, _, rfl, hg.ow, _, rfl, hg.ow, sz_of rfl, sz_of rfl, ?_⟩
    refine ⟨_, rfl, hg.ow, _, rfl, hg.ow, _, rfl, hg.ow, _, rfl, hg.ow, _, rfl, hg.ow, sz_of rfl, ?_⟩
    refine ⟨_, rfl, rfl, _, rfl, hg.ow, _, rfl, hg.ow, _, rfl, hg.ow, _, rfl, hg.ow, _, rfl, hg.ow, sz_of rfl, _, _, rfl, rfl, sz_of rfl, ?_⟩
    refine ⟨_, rfl, _, rfl, hg.ow, sz_of rfl, ?_⟩
    refine ⟨_, rfl, _, rfl, rfl, _, rfl, ?_⟩
    exact inner_ok hg fun x6 x7 x8 x9 => outer_ok hx r (n + 1) _ _ _ _ _ _ _ _ (by omega)
theorem vc_law (R : Res) (ds : List D) (Q : DQ) (E : DX) (h : sp_law R ds Q E) : t_law R { nx := fun R _ => Q R .non, rt := Q, ex := fun R c fs _ => E R c fs } (startD 10 ds) := by
  obtain ⟨ns, rfl, rfl, hl, hq⟩ := h
  refine ⟨_, rfl, rfl, ns, rfl, rfl, hl, fun a => ?_⟩
  refine ⟨_, rfl, rfl, _, rfl, ?_, ?_, ?_⟩
  · split <;> omega
  · split <;> omega
  have e : ∀ n : Nat, rangeD 0 n = ((List.range n).map fun i => (0 : Int) + (i : Nat)).map D.int := fun n => by unfold rangeD; rw [List.map_map]; rfl
  show forGo _ _ _ (rangeD 0 _) _ _
  rw [e]
  refine outer_ok (fun R ρ => hq R) _ 0 _ _ _ _ _ _ _ _ ?_
  rw [List.length_map, List.length_range]
  split <;> omega
theorem fg_law (G : Gs P K mg base) {f : Addr} {fd : FuncData} (F : Fun K "law" "law" s_law f fd) : FnG P w K mg base (L2.CX P w) 3 f fd ["_law_script"] (spL ⟨K, mg⟩ sp_law) :=
  fn_gd (k := 2) F sc_law len_law fun cdv A outer s H E hr hgd => ⟨t_law, by
    have hu := hu_room hr
    exact (dss_cons (ds_set (i := 1) sc_law.nd rfl (by first | exact Or.inl rfl | exact Or.inr rfl) (de_og (ok_law_begun G) hr (by decide) hgd rfl (takes_of rfl rfl rfl rfl) (da_cons (de_var 0) da_nil))) (dss_cons (ds_for (passes_of rfl) rfl (di_range1 rfl G.g_range (da_cons (de_add de_int (de_min2 rfl rfl G.g_min (da_cons (de_len rfl G.g_len (da_cons (de_var 0) da_nil)) (da_cons de_int da_nil)))) da_nil)) (dg_name (i := 2) (js := [2]) sc_law.nd rfl (by first | exact Or.inl rfl | exact Or.inr rfl) (by decide)) (dss_cons (ds_set (i := 3) sc_law.nd rfl (by first | exact Or.inl rfl | exact Or.inr rfl) (de_og (ok_law_value G) hr (by decide) hgd rfl (takes_of rfl rfl rfl rfl) (da_cons (de_var 1) da_nil))) (dss_cons (ds_set (i := 4) sc_law.nd rfl (by first | exact Or.inl rfl | exact Or.inr rfl) (de_lst (da_cons (de_mkP G.x_BadNames G.g_super hr rfl (de_var 3)) (da_cons (de_mkP G.x_BadPaper G.g_super hr rfl (de_var 3)) (da_cons (de_mkP G.x_BadRoll G.g_super hr rfl (de_var 3)) (da_cons (de_mkP G.x_BadRule G.g_super hr rfl (de_var 3)) (da_cons (de_mkP G.x_BadCourse G.g_super hr rfl (de_var 3)) (da_cons (de_mkP G.x_BadKinds G.g_super hr rfl (de_var 3)) (da_cons (de_mkP G.x_BadQuestion G.g_super hr rfl (de_var 3)) da_nil))))))))) (dss_cons (ds_set (i := 4) sc_law.nd rfl (by first | exact Or.inl rfl | exact Or.inr rfl) (de_add (de_var 4) (de_lst (da_cons (de_mkP G.x_BadAnswer G.g_super hr rfl (de_var 3)) (da_cons (de_mkP G.x_BadNumber G.g_super hr rfl (de_var 3)) (da_cons (de_mkP G.x_BadText G.g_super hr rfl (de_var 3)) (da_cons (de_mkP G.x_TooMany G.g_super hr rfl (de_var 3)) da_nil))))))) (dss_cons (ds_set (i := 5) sc_law.nd rfl (by first | exact Or.inl rfl | exact Or.inr rfl) (de_lst (da_cons (de_mkK G.x_BadNames G.g_super hr rfl (de_var 3)) (da_cons (de_mkK G.x_BadPaper G.g_super hr rfl (de_var 3)) (da_cons (de_mkK G.x_BadRoll G.g_super hr rfl (de_var 3)) (da_cons (de_mkK G.x_BadRule G.g_super hr rfl (de_var 3)) (da_cons (de_mkK G.x_BadCourse G.g_super hr rfl (de_var 3)) da_nil))))))) (dss_cons (ds_own (i := 5) sc_law.nd rfl (by first | exact Or.inl rfl | exact Or.inr rfl) (df_cat (de_var 5) (de_lst (da_cons (de_mkK G.x_BadKinds G.g_super hr rfl (de_var 3)) (da_cons (de_mkK G.x_BadQuestion G.g_super hr rfl (de_var 3)) (da_cons (de_mkK G.x_BadAnswer G.g_super hr rfl (de_var 3)) (da_cons (de_mkK G.x_BadNumber G.g_super hr rfl (de_var 3)) (da_cons (de_mkK G.x_BadText G.g_super hr rfl (de_var 3)) da_nil)))))))) (dss_cons (ds_app (i := 5) rfl (de_mkK G.x_TooMany G.g_super hr rfl (de_var 3))) (dss_give 5 (dss_one (ds_for (passes_of rfl) rfl (di_enum rfl G.g_enumerate (da_cons (de_var 4) da_nil)) (dg_2 rfl (dg_name (i := 6) (js := [6, 7]) sc_law.nd rfl (by first | exact Or.inl rfl | exact Or.inr rfl) (by decide)) (dg_name (i := 7) (js := [6, 7]) sc_law.nd rfl (by first | exact Or.inl rfl | exact Or.inr rfl) (by decide))) (dss_cons (ds_if (dt_w (dw_or (dt_ne hu (de_repr hgd hu rfl G.g_repr (da_cons (de_og (ok_law_field G) hr (by decide) hgd rfl (takes_of rfl rfl rfl rfl) (da_cons (de_var 7) da_nil)) da_nil)) (de_repr hgd hu rfl G.g_repr (da_cons (de_var 3) da_nil))) (dw_or1 (dt_ne hu (de_repr hgd hu rfl G.g_repr (da_cons (de_og (ok_law_field G) hr (by decide) hgd rfl (takes_of rfl rfl rfl rfl) (da_cons (de_ix (de_var 5) (de_var 6)) da_nil)) da_nil)) (de_repr hgd hu rfl G.g_repr (da_cons (de_var 3) da_nil)))))) (dss_one (ds_ret de_bl)) dss_nil) (dss_cons (ds_if (dt_w (dw_or (dt_ne hu (de_og (ok_law_kinds G) hr (by decide) hgd rfl (takes_of rfl rfl rfl rfl) (da_cons (de_var 7) da_nil)) (de_lc (own := [("_law_k", 8)]) rfl sc_law.nd (di_range1 rfl G.g_range (da_cons de_int da_nil)) (blkOk_by (N := ["_law_script", "_law_m", "_law_turn", "_law_q", "_law_some", "_law_far", "_law_at", "_law_one", "_law_k", "_law_told"]) (sc := defScope s_law) (by decide +kernel)) (fun _ _ _ _ _ => (dg_name (i := 8) (js := [8]) sc_law.nd rfl (by first | exact Or.inl rfl | exact Or.inr rfl) (by decide))) (fun _ _ _ _ _ => dts_nil) (fun _ _ _ _ _ => (de_eq hu (de_var 8) (de_var 6))))) (dw_or1 (dt_ne hu (de_og (ok_law_kinds G) hr (by decide) hgd rfl (takes_of rfl rfl rfl rfl) (da_cons (de_ix (de_var 5) (de_var 6)) da_nil)) (de_og (ok_law_kinds G) hr (by decide) hgd rfl (takes_of rfl rfl rfl rfl) (da_cons (de_var 7) da_nil)))))) (dss_one (ds_ret de_bl)) dss_nil) (dss_cons (ds_set (i := 9) sc_law.nd rfl (by first | exact Or.inl rfl | exact Or.inr rfl) (de_lst (da_cons (de_isiE G.sub rfl G.g_isinstance (da_cons (de_var 7) (da_cons (de_cls rfl G.k_VoteError) da_nil))) (da_cons (de_isiE G.sub rfl G.g_isinstance (da_cons (de_var 7) (da_cons (de_ty rfl G.g_ValueError (by decide +kernel)) da_nil))) (da_cons (de_isiE G.sub rfl G.g_isinstance (da_cons (de_var 7) (da_cons (de_ty rfl G.g_LookupError (by decide +kernel)) da_nil))) da_nil))))) (dss_one (ds_if (dt_ne hu (de_add (de_var 9) (de_lst (da_cons (de_isiE G.sub rfl G.g_isinstance (da_cons (de_var 7) (da_cons (de_ty rfl G.g_OverflowError (by decide +kernel)) da_nil))) da_nil))) (de_lst (da_cons (de_lt (de_var 6) de_int) (da_cons (de_lt (de_var 6) de_int) (da_cons de_bl (da_cons (de_eq hu (de_var 6) de_int) da_nil)))))) (dss_one (ds_ret de_bl)) dss_nil))))) (of_2 6 7)))))))))) (of_name 2)) (dss_one (ds_ret de_bl)))), vc_law⟩
theorem ok_law (G : Gs P K mg base) : OkG P w K mg base 3 "law" ["_law_script"] sp_law :=
  let ⟨_, _, hm, F⟩ := G.f_law
  ⟨_, _, hm, F.kp, F.binds (fun _ _ _ _ _ _ us hl => match us, hl with | [_], _ => rfl), fg_law G F⟩

end K70

set_option Elab.async false
set_option linter.all false
set_option maxRecDepth 100000
set_option maxHeartbeats 0
namespace K70
open PySem L2 DL PySem.Spec PyProof.Rows
def initOf (i : Nat) : Stmt := match top i with
  | .ClassDef _ _ _ body _ _ _ _ _ _ _ => body.getD 0 (.Pass ⟨0, 0, 0, 0⟩)
  | _ => .Pass ⟨0, 0, 0, 0⟩
theorem xs_BadNames : XcS (initOf 2) "value" := ⟨⟨_, _, _, _, _, _, _, _, _, _, _, _, rfl, rfl⟩, rfl, rfl, rfl, by decide +kernel, by decide +kernel, by decide +kernel, by decide +kernel, by decide +kernel, by decide, by decide, ⟨_, rfl, rfl⟩, fun _ _ _ _ _ _ _ _ _ _ => rfl, fun _ _ _ _ _ _ _ _ _ _ => rfl⟩
theorem xs_BadPaper : XcS (initOf 3) "value" := ⟨⟨_, _, _, _, _, _, _, _, _, _, _, _, rfl, rfl⟩, rfl, rfl, rfl, by decide +kernel, by decide +kernel, by decide +kernel, by decide +kernel, by decide +kernel, by decide, by decide, ⟨_, rfl, rfl⟩, fun _ _ _ _ _ _ _ _ _ _ => rfl, fun _ _ _ _ _ _ _ _ _ _ => rfl⟩
theorem xs_BadRoll : XcS (initOf 4) "place" := ⟨⟨_, _, _, _, _, _, _, _, _, _, _, _, rfl, rfl⟩, rfl, rfl, rfl, by decide +kernel, by decide +kernel, by decide +kernel, by decide +kernel, by decide +kernel, by decide, by decide, ⟨_, rfl, rfl⟩, fun _ _ _ _ _ _ _ _ _ _ => rfl, fun _ _ _ _ _ _ _ _ _ _ => rfl⟩
theorem xs_BadRule : XcS (initOf 5) "place" := ⟨⟨_, _, _, _, _, _, _, _, _, _, _, _, rfl, rfl⟩, rfl, rfl, rfl, by decide +kernel, by decide +kernel, by decide +kernel, by decide +kernel, by decide +kernel, by decide, by decide, ⟨_, rfl, rfl⟩, fun _ _ _ _ _ _ _ _ _ _ => rfl, fun _ _ _ _ _ _ _ _ _ _ => rfl⟩
theorem xs_BadCourse : XcS (initOf 6) "value" := ⟨⟨_, _, _, _, _, _, _, _, _, _, _, _, rfl, rfl⟩, rfl, rfl, rfl, by decide +kernel, by decide +kernel, by decide +kernel, by decide +kernel, by decide +kernel, by decide, by decide, ⟨_, rfl, rfl⟩, fun _ _ _ _ _ _ _ _ _ _ => rfl, fun _ _ _ _ _ _ _ _ _ _ => rfl⟩
theorem xs_BadKinds : XcS (initOf 7) "value" := ⟨⟨_, _, _, _, _, _, _, _, _, _, _, _, rfl, rfl⟩, rfl, rfl, rfl, by decide +kernel, by decide +kernel, by decide +kernel, by decide +kernel, by decide +kernel, by decide, by decide, ⟨_, rfl, rfl⟩, fun _ _ _ _ _ _ _ _ _ _ => rfl, fun _ _ _ _ _ _ _ _ _ _ => rfl⟩
theorem xs_BadQuestion : XcS (initOf 8) "value" := ⟨⟨_, _, _, _, _, _, _, _, _, _, _, _, rfl, rfl⟩, rfl, rfl, rfl, by decide +kernel, by decide +kernel, by decide +kernel, by decide +kernel, by decide +kernel, by decide, by decide, ⟨_, rfl, rfl⟩, fun _ _ _ _ _ _ _ _ _ _ => rfl, fun _ _ _ _ _ _ _ _ _ _ => rfl⟩
theorem xs_BadAnswer : XcS (initOf 9) "place" := ⟨⟨_, _, _, _, _, _, _, _, _, _, _, _, rfl, rfl⟩, rfl, rfl, rfl, by decide +kernel, by decide +kernel, by decide +kernel, by decide +kernel, by decide +kernel, by decide, by decide, ⟨_, rfl, rfl⟩, fun _ _ _ _ _ _ _ _ _ _ => rfl, fun _ _ _ _ _ _ _ _ _ _ => rfl⟩
theorem xs_BadNumber : XcS (initOf 10) "value" := ⟨⟨_, _, _, _, _, _, _, _, _, _, _, _, rfl, rfl⟩, rfl, rfl, rfl, by decide +kernel, by decide +kernel, by decide +kernel, by decide +kernel, by decide +kernel, by decide, by decide, ⟨_, rfl, rfl⟩, fun _ _ _ _ _ _ _ _ _ _ => rfl, fun _ _ _ _ _ _ _ _ _ _ => rfl⟩
theorem xs_BadText : XcS (initOf 11) "line" := ⟨⟨_, _, _, _, _, _, _, _, _, _, _, _, rfl, rfl⟩, rfl, rfl, rfl, by decide +kernel, by decide +kernel, by decide +kernel, by decide +kernel, by decide +kernel, by decide, by decide, ⟨_, rfl, rfl⟩, fun _ _ _ _ _ _ _ _ _ _ => rfl, fun _ _ _ _ _ _ _ _ _ _ => rfl⟩
theorem xs_TooMany : XcS (initOf 12) "most" := ⟨⟨_, _, _, _, _, _, _, _, _, _, _, _, rfl, rfl⟩, rfl, rfl, rfl, by decide +kernel, by decide +kernel, by decide +kernel, by decide +kernel, by decide +kernel, by decide, by decide, ⟨_, rfl, rfl⟩, fun _ _ _ _ _ _ _ _ _ _ => rfl, fun _ _ _ _ _ _ _ _ _ _ => rfl⟩
def fn : List He.FnD := [⟨("_law_begun", none), "_law_begun", "_law_begun", defArgs s_law_begun, defBody s_law_begun, defScope s_law_begun⟩, ⟨("_law_next", none), "_law_next", "_law_next", defArgs s_law_next, defBody s_law_next, defScope s_law_next⟩, ⟨("_law_value", none), "_law_value", "_law_value", defArgs s_law_value, defBody s_law_value, defScope s_law_value⟩, ⟨("_law_kinds", none), "_law_kinds", "_law_kinds", defArgs s_law_kinds, defBody s_law_kinds, defScope s_law_kinds⟩, ⟨("_law_field", none), "_law_field", "_law_field", defArgs s_law_field, defBody s_law_field, defScope s_law_field⟩, ⟨("law", none), "law", "law", defArgs s_law, defBody s_law, defScope s_law⟩]
def xn : List XnD := [⟨"BadNames", "value", "BadNames.__init__", initOf 2, false⟩, ⟨"BadPaper", "value", "BadPaper.__init__", initOf 3, false⟩, ⟨"BadRoll", "place", "BadRoll.__init__", initOf 4, false⟩, ⟨"BadRule", "place", "BadRule.__init__", initOf 5, false⟩, ⟨"BadCourse", "value", "BadCourse.__init__", initOf 6, false⟩, ⟨"BadKinds", "value", "BadKinds.__init__", initOf 7, false⟩, ⟨"BadQuestion", "value", "BadQuestion.__init__", initOf 8, false⟩, ⟨"BadAnswer", "place", "BadAnswer.__init__", initOf 9, false⟩, ⟨"BadNumber", "value", "BadNumber.__init__", initOf 10, false⟩, ⟨"BadText", "line", "BadText.__init__", initOf 11, false⟩, ⟨"TooMany", "most", "TooMany.__init__", initOf 12, true⟩]
def subB (K : Fg) : Bool := exs.all fun c => (exs.all fun y => decide (PySem.W.kitOne K (.ref (He.ga K c)) (.ref (He.ga K y)) = some (c == y))) && (decide (PySem.W.kitOne K (.ref (He.ga K c)) (.ref (He.ga K "VoteError")) = some (c != "TooMany")) &&
  (decide (PySem.W.kitOne K (.ref (He.ga K c)) (.type "ValueError") = some (c != "TooMany")) && (decide (PySem.W.kitOne K (.ref (He.ga K c)) (.type "LookupError") = some false) && decide (PySem.W.kitOne K (.ref (He.ga K c)) (.type "OverflowError") = some (c == "TooMany")))))
def fa : List (Fg → Bool) := [fun K => (He.Fa.glo "_law_begun").ok K && (He.Fa.keep "_law_begun").ok K, fun K => (He.Fa.glo "_law_next").ok K && (He.Fa.keep "_law_next").ok K, fun K => (He.Fa.glo "_law_value").ok K && (He.Fa.keep "_law_value").ok K, fun K => (He.Fa.glo "_law_kinds").ok K && (He.Fa.keep "_law_kinds").ok K, fun K => (He.Fa.glo "_law_field").ok K && (He.Fa.keep "_law_field").ok K, fun K => (He.Fa.glo "law").ok K && (He.Fa.keep "law").ok K, fun K => (He.Fa.free "isinstance").ok K, fun K => (He.Fa.free "len").ok K, fun K => (He.Fa.free "repr").ok K, fun K => (He.Fa.free "range").ok K, fun K => (He.Fa.free "enumerate").ok K, fun K => (He.Fa.free "min").ok K, fun K => (He.Fa.free "int").ok K, fun K => (He.Fa.free "list").ok K, fun K => (He.Fa.free "ValueError").ok K, fun K => (He.Fa.free "LookupError").ok K, fun K => (He.Fa.free "OverflowError").ok K, fun K => (He.Fa.free "super").ok K, fun K => (He.Fa.glo "VoteError").ok K, subB]
abbrev PR : Program := (PySem.Challenge.rw_handedvotes_k70_errors).prog
abbrev mf : Str := PR.main.file
theorem exs_in {mf : Str} {K : Fg} {h : Heap} {mg : Str → Option Value} (c : SaysX mf fa fn xn K h) (G : h.Ns mainGlobals mg) (hf : PR.main.file = mf) (hs : (PR.main.scope.names.lookup ("super" : Str)).isSome = false) :
    ∀ i : Fin 11, ∃ C, mg (ex i) = some (.ref C) ∧ KitE K C ∧ C = He.ga K (ex i) ∧ PySem.W.findIn K (.ref C) (fd i) = some none ∧ XcD PR K mg (ex i) (fd i) := by
  have go : ∀ (i : Nat) (d : XnD), xn[i]? = some d → XcS d.st d.fld → ∃ C, mg d.cls = some (.ref C) ∧ KitE K C ∧ C = He.ga K d.cls ∧ PySem.W.findIn K (.ref C) d.fld = some none ∧ XcD PR K mg d.cls d.fld := fun i d hi S => by
    obtain ⟨C, h1, h2, h3, h4⟩ := c.exc (P := PR) G hf hs i hi
    exact ⟨C, h1, h3, h4, h2.noat, ⟨_, _, _, S, h2, h1⟩⟩
  rintro ⟨n, hn⟩
  match n, hn with
  | 0, _ => exact go 0 _ rfl xs_BadNames
  | 1, _ => exact go 1 _ rfl xs_BadPaper
  | 2, _ => exact go 2 _ rfl xs_BadRoll
  | 3, _ => exact go 3 _ rfl xs_BadRule
  | 4, _ => exact go 4 _ rfl xs_BadCourse
  | 5, _ => exact go 5 _ rfl xs_BadKinds
  | 6, _ => exact go 6 _ rfl xs_BadQuestion
  | 7, _ => exact go 7 _ rfl xs_BadAnswer
  | 8, _ => exact go 8 _ rfl xs_BadNumber
  | 9, _ => exact go 9 _ rfl xs_BadText
  | 10, _ => exact go 10 _ rfl xs_TooMany
theorem ex_mem : ∀ i : Fin 11, ex i ∈ exs := by decide +kernel
theorem ex_of : ∀ c : Str, exs.contains c = true → ∃ i : Fin 11, c = ex i := by
  intro c h
  have h1 : c ∈ exs := by simpa using h
  obtain ⟨i, hi, e⟩ := List.getElem_of_mem h1
  refine ⟨⟨i, hi⟩, ?_⟩
  show c = exs.getD i "BadNames"
  rw [← e]
  simp [List.getD, hi]
theorem att_of : ∀ c n : Str, attA c n = true → ∃ i : Fin 11, c = ex i ∧ n = fd i := by
  intro c n h
  have h1 : (c, n) ∈ exs.zip fds := by simpa [attA] using h
  obtain ⟨i, hi, e⟩ := List.getElem_of_mem h1
  have hi1 : i < exs.length := by rw [List.length_zip] at hi; omega
  have hi2 : i < fds.length := by rw [List.length_zip] at hi; omega
  rw [List.getElem_zip] at e
  refine ⟨⟨i, hi1⟩, ?_, ?_⟩
  · show c = exs.getD i "BadNames"
    rw [← (Prod.mk.inj e).1]; simp [List.getD, hi1]
  · show n = fds.getD i "value"
    rw [← (Prod.mk.inj e).2]; simp [List.getD, hi2]
theorem gs_of {mf : Str} {K : Fg} {h : Heap} {mg : Str → Option Value} {base : Heap} (c : SaysX mf fa fn xn K h) (G : h.Ns mainGlobals mg) (hf : PR.main.file = mf) (hs : (PR.main.scope.names.lookup ("super" : Str)).isSome = false) : Gs PR K mg base := by
  have X := exs_in c G hf hs
  have kx : ∀ i : Fin 11, ∃ C, mg (ex i) = some (.ref C) := fun i => let ⟨C, h, _⟩ := X i; ⟨C, h⟩
  have xx : ∀ i : Fin 11, XcD PR K mg (ex i) (fd i) := fun i => let ⟨_, _, _, _, _, h⟩ := X i; h
  have kv : mg "VoteError" = some (.ref (He.ga K "VoteError")) := He.glo_ok c.kin G (c.fact 18 (f := fun K => (He.Fa.glo "VoteError").ok K) rfl)
  have sb : subB K = true := c.fact 19 rfl
  have sb1 : ∀ i : Fin 11, _ := fun i => List.all_eq_true.mp sb (ex i) (ex_mem i)
  refine ⟨c.free G 6 rfl, c.free G 7 rfl, c.free G 8 rfl, c.free G 9 rfl, c.free G 10 rfl, c.free G 11 rfl, c.free G 12 rfl, c.free G 13 rfl, c.free G 14 rfl, c.free G 15 rfl, c.free G 16 rfl, c.free G 17 rfl, c.defAt G 0 0 rfl rfl, c.defAt G 1 1 rfl rfl, c.defAt G 2 2 rfl rfl, c.defAt G 3 3 rfl rfl, c.defAt G 4 4 rfl rfl, c.defAt G 5 5 rfl rfl, ⟨_, kv⟩, kx 0, kx 1, kx 2, kx 3, kx 4, kx 5, kx 6, kx 7, kx 8, kx 9, kx 10, xx 0, xx 1, xx 2, xx 3, xx 4, xx 5, xx 6, xx 7, xx 8, xx 9, xx 10, ?_, ?_⟩
  · intro cc k b h
    cases k with
    | cls y =>
      unfold subS at h
      dsimp only at h
      split at h
      · rename_i hc
        obtain ⟨i, rfl⟩ := ex_of cc hc
        obtain ⟨C, h1, h2, h3, _⟩ := X i
        obtain ⟨s1, s2⟩ := He.ba (sb1 i)
        split at h
        · rename_i hy
          cases h
          obtain ⟨j, rfl⟩ := ex_of y hy
          obtain ⟨D', g1, g2, g3, _⟩ := X j
          refine ⟨C, .ref D', h1, h2, ⟨g1, _, rfl⟩, ?_⟩
          rw [h3, g3]
          exact of_decide_eq_true (List.all_eq_true.mp s1 (ex j) (ex_mem j))
        · split at h
          · rename_i hv
            cases h
            have hv' : y = "VoteError" := by simpa using hv
            subst hv'
            refine ⟨C, _, h1, h2, ⟨kv, _, rfl⟩, ?_⟩
            rw [h3]
            exact of_decide_eq_true (He.ba s2).1
          · cases h
      · cases h
    | ty t =>
      unfold subS at h
      dsimp only at h
      split at h
      · rename_i hc
        obtain ⟨i, rfl⟩ := ex_of cc hc
        obtain ⟨C, h1, h2, h3, _⟩ := X i
        obtain ⟨_, s2⟩ := He.ba (sb1 i)
        obtain ⟨_, s3⟩ := He.ba s2
        obtain ⟨s4, s5⟩ := He.ba s3
        obtain ⟨s6, s7⟩ := He.ba s5
        split at h
        · rename_i ht
          cases h
          have ht' : t = "ValueError" := by simpa using ht
          subst ht'
          exact ⟨C, _, h1, h2, rfl, by rw [h3]; exact of_decide_eq_true s4⟩
        · split at h
          · rename_i ht
            cases h
            have ht' : t = "LookupError" := by simpa using ht
            subst ht'
            exact ⟨C, _, h1, h2, rfl, by rw [h3]; exact of_decide_eq_true s6⟩
          · split at h
            · rename_i ht
              cases h
              have ht' : t = "OverflowError" := by simpa using ht
              subst ht'
              exact ⟨C, _, h1, h2, rfl, by rw [h3]; exact of_decide_eq_true s7⟩
            · cases h
      · cases h
    | _ => cases h
  · intro cc n h
    obtain ⟨i, rfl, rfl⟩ := att_of cc n h
    obtain ⟨C, h1, h2, _, h4, _⟩ := X i
    exact ⟨C, h1, h2, h4⟩
end K70

set_option Elab.async false
set_option linter.all false
set_option maxRecDepth 100000
set_option maxHeartbeats 0
namespace K70
open PySem L2 DL PySem.Spec PyProof.Rows
abbrev RO : PySem.W.OpenRow := PySem.W.OpenLaw.row PySem.Challenge.rw_handedvotes_k70_errors
abbrev hk : PySem.W.Hook := hookX 5 mf fa fn xn
def ob (s : PySem.W.SharedT) : Bool × AlX := obsXG 5 mf fa fn xn (HandSHeadRun.getT s)
theorem ob_eq (s : PySem.W.SharedT) : ob s = hk.obs s.abs := obsXG_eq (HandSHeadRun.getT_eq s)
def loose : List Str := ["VoteError", "BadNames", "BadPaper", "BadRoll", "BadRule", "BadCourse", "BadKinds", "BadQuestion", "BadAnswer", "BadNumber", "BadText", "TooMany", "_law_begun", "_law_next", "_law_value", "_law_kinds", "_law_field"]
theorem run (w : World) : HandSHeadRun.RunEq RO (PySem.W.view RO.prog [19]) hk ob 4000 loose w := by
  intro os
  kernel_rfl
end K70

set_option Elab.async false
set_option linter.all false
set_option maxRecDepth 100000
set_option maxHeartbeats 0
open PySem PySem.W PySem.Calls PyProof.Rows
theorem PySem.Challenge.cw_handedvotes_k70_errors_holds : PySem.Challenge.rw_handedvotes_k70_errors.Holds := by
  w_on; o_law
  refine HandSHeadRun.head_any (r := OpenLaw.row PySem.Challenge.rw_handedvotes_k70_errors) (q := view (OpenLaw.row PySem.Challenge.rw_handedvotes_k70_errors).prog [19]) (H := K70.hk) (ob := K70.ob) (M := 4000) (loose := K70.loose)
    (d := HandSHeadRun.topDef (OpenLaw.row PySem.Challenge.rw_handedvotes_k70_errors).prog 19) (kwd := []) K70.ob_eq
    (by kernel_rfl) (fun s => by kernel_rfl) K70.run (by kernel_rfl) (by kernel_rfl) (by kernel_rfl) (by rfl) (by first | assumption | decide +kernel) (by decide +kernel) ⟨rfl, rfl, rfl, rfl, rfl, by decide +kernel⟩ ?hw ?hc
  case hw => w_witness2
  case hc =>
    refine DL.walk_g (l := PySem.Challenge.rw_handedvotes_k70_errors) (n := 63) (k := 3) (x := "_law_script") rfl (by decide) (by kernel_rfl) ⟨rfl, by decide, by decide⟩ ?F
    intro w mg fa h Y G hmg0
    obtain ⟨K, c⟩ := Y
    have e : (HandSHeadRun.topDef (OpenLaw.row PySem.Challenge.rw_handedvotes_k70_errors).prog 19).name = ("law" : PySem.Str) := by kernel_rfl
    rw [e] at hmg0
    have hs : (K70.PR.main.scope.names.lookup ("super" : PySem.Str)).isSome = false := by decide +kernel
    obtain ⟨f0, fd0, hm, F⟩ := (K70.gs_of (base := h) c G rfl hs).f_law
    have e2 := hmg0.symm.trans hm
    cases e2
    have b := F.binds (ps := ["_law_script"]) fun _ _ _ _ _ _ us hl => match us, hl with | [_], _ => rfl
    refine ⟨K, fd0, K70.sp_law, c.kin, c.nos, c.sys, ?_, fun ns hl => ⟨ns, rfl, rfl, hl, fun _ => rfl⟩, fun base hK hG => ?_⟩
    · obtain ⟨_, _, _, _, _, _, _, _, _, ef, _⟩ := F.ex
      subst ef
      exact fun s u => .of_eq rfl
    · exact K70.fg_law (K70.gs_of (base := base) c G rfl hs) F
