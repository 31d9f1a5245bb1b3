import PyProof.Rows.All
import Wide.All
import OpenK.AllK
import Wide.FinOn
import HandS.ForMost
import HandS.ForExc
import HandS.ExcInit
import KE.KeyNested
import KE.KDictKeyed
import HandS.TupAny
import HandS.TupMul
import HandS.Deep
import HandS.Wide
import PyProof.Claim2Refuses
import HandS.IsInst
import HandS.Zip
import HandS.Star
import HandS.Style
import KE.SortData
import HandS.ExcField
import KE.KExcSuper
import KE.KExcLine
import KE.KExcIs
import HandS.Dict
import HandS.HeadHook1
import HandS.HeadHook2
import HandS.Head0
import HandS.Head1
import HandS.Head2
import KE.KStateDown
import KE.KRevSl
import HandS.Lambda
import HandS.ExcOwn
import HandS.TryMany
import KE.SortCalls
import PyProof.TwoTypesSub
import HandS.Strs
import HandS.SlotsOwn
import KE.KDflt
import HandS.Defaults
import PySem.Challenge.RW_handedvotes_k04_whole_rules_made
import HandS.HeadHook4
import PyProof.Rows.ReprOcc
import KE.DataCmp
set_option Elab.async false
set_option linter.all false
set_option maxRecDepth 100000
set_option maxHeartbeats 4000000
namespace DL
open PySem L2

/-! ### heaps that grow -/
def Ex (B B' : Hp) : Prop := ∀ a o, B a = some o → B' a = some o
/-- what is told of a part of the heap, and stays as it grows -/
structure Cap where
  ok : Hp → Prop
  mono : ∀ B B', Ex B B' → ok B → ok B'
instance : Inhabited Cap := ⟨⟨fun _ => True, fun _ _ _ h => h⟩⟩
/-! ### data -/
inductive D where
  | non | bl (b : Bool) | int (i : Int) | str (x : Str) | tup (ds : List D) | lst (ds : List D) | dct (kvs : List (D × D)) | frl (ds : List D) | tpw (ds : List D) | obj (c : Str) (fs : List (Str × D)) | exc (c : Str) (fs : List (Str × D)) | cls (c : Str) | ref (a : Addr) | ty (n : String) | own (d : D) | dtt (kvs : List (D × D)) | xcg (a dd : Addr) (c : Str) (fs : List (Str × D)) | clo (f : Addr) (c : Cap)
  deriving Inhabited
def D.isOwn : D → Bool
  | .own _ => true
  | _ => false

structure Md where
  K : PySem.W.Frag
  mg : Str → Option Value
  w : World
abbrev _root_.L2.Cx.md (X : Cx) : Md := ⟨X.K, X.mg, X.w⟩

def keyD : Key → D
  | .inl i => .int i
  | .inr x => .str x

/-- a dict whose keys are tuples: its entries, each key by what it is and where it lies -/
def dtO (w : World) (a : Addr) (xs : List (NestedKey × Addr × V)) : HO := .ext fun h => ∃ (o : Obj) (es : Array DictEntry) (ep : Nat) (us : List (NestedKey × Addr × Value)), h.get? a = some o ∧ o.ExactDict ∧ o.data = .dict es ep ∧
  es.toList = us.map (fun x => ⟨x.1.hash w, .ref x.2.1, x.2.2⟩) ∧ Paired (fun (p : NestedKey × Addr × V) (q : NestedKey × Addr × Value) => p.1 = q.1 ∧ p.2.1 = q.2.1 ∧ RelV p.2.2 q.2.2) xs us ∧ (xs.map (·.1)).Nodup ∧ xs.length ≤ sizeLine ∧ (a == sysModules) = false
mutual
/-- a key, up to == -/
def keyN : D → Option NestedKey
  | .non => some .none
  | .bl b => some (.num (if b = true then 1 else 0))
  | .int i => some (.num i)
  | .str x => some (.text x)
  | .tup ds => (keyNs ds).map .tup
  | .lst _ => none | .dct _ => none | .frl _ => none | .tpw _ => none | .obj _ _ => none | .exc _ _ => none | .cls _ => none | .ref _ => none | .ty _ => none | .own _ => none | .dtt _ => none | .xcg _ _ _ _ => none | .clo _ _ => none
def keyNs : List D → Option (List NestedKey)
  | [] => some []
  | d :: r => match keyN d, keyNs r with
    | some k, some ks => some (k :: ks)
    | _, _ => none
end
/-- a tuple of which it is known that it bears no dict of its own -/
def TupAt (K : PySem.W.Frag) (B : Hp) (a : Addr) (xs : List V) : Prop := (∃ o : Obj, o.dict = none ∧ B a = some (.frz o (.tup xs))) ∨
  ∃ (o : Obj) (its : Array Value) (n : Nat), K.lookup a = some o ∧ o.cls = .type "tuple" ∧ o.dict = none ∧ o.data = .seq its n ∧ its.size ≤ sizeLine ∧ Vals xs its.toList
theorem TupAt.st {K : PySem.W.Frag} {B : Hp} {a : Addr} {xs : List V} (h : TupAt K B a xs) : SqT K B a xs := by
  rcases h with ⟨o, _, h⟩ | ⟨o, its, n, h1, h2, _, h3, h4, h5⟩
  · exact .inl (.inr ⟨o, h⟩)
  · exact .inr ⟨o, its, n, h1, h2, h3, h4, h5⟩
theorem TupAt.new {K : PySem.W.Frag} {B : Hp} {p : Addr} {o : Obj} {xs : List V} (h : o.dict = none) : TupAt K (upd B p (.frz o (.tup xs))) p xs := .inl ⟨o, h, upd_same⟩
mutual
inductive Dp (M : Md) (B : Hp) : V → D → Prop
  | non : Dp M B .non .non
  | bl (b : Bool) : Dp M B (.bl b) (.bl b)
  | int (i : Int) : Dp M B (.int i) (.int i)
  | str (x : Str) : Dp M B (.str x) (.str x)
  | ty (n : String) : Dp M B (.ty n) (.ty n)
  | ref (a : Addr) : Dp M B (.ref a) (.ref a)
  | tup {a : Addr} {xs : List V} {ds : List D} : TupAt M.K B a xs → Dps M B xs ds → Dp M B (.ref a) (.tup ds)
  | tpw {a : Addr} {xs : List V} {ds : List D} : SqT M.K B a xs → Dps M B xs ds → Dp M B (.ref a) (.tpw ds)
  | lst {a : Addr} {xs : List V} {ds : List D} : B a = some (.lst xs) → Dps M B xs ds → Dp M B (.ref a) (.lst ds)
  | frl {a : Addr} {xs : List V} {ds : List D} : SqL M.K B a xs → Dps M B xs ds → Dp M B (.ref a) (.frl ds)
  | dct {a : Addr} {kvs : List (Key × V)} {ds : List (D × D)} : B a = some (.dK kvs) → Dpk M B kvs ds → Dp M B (.ref a) (.dct ds)
  | obj {a C dx : Addr} {c : Str} {vs : List (Str × V)} {fs : List (Str × D)} : M.mg c = some (.ref C) → B a = some (.ins C dx vs) → Dpf M B vs fs → Dp M B (.ref a) (.obj c fs)
  | cls {C : Addr} {c : Str} : M.mg c = some (.ref C) → Dp M B (.ref C) (.cls c)
  | exc {a C dx : Addr} {c : Str} {vs : List (Str × V)} {fs : List (Str × D)} : M.mg c = some (.ref C) → B a = some (exo a C (some dx)) → B dx = some (exd dx vs) → Dpf M B vs fs → Dp M B (.ref a) (.exc c fs)
  | dtt {a : Addr} {xs : List (NestedKey × Addr × V)} {kvs : List (D × D)} : B a = some (dtO M.w a xs) → Dpn M B xs kvs → Dp M B (.ref a) (.dtt kvs)
  | xcg {a C dd : Addr} {c : Str} {vs : List (Str × V)} {fs : List (Str × D)} : M.mg c = some (.ref C) → B dd = some (.xd vs) → Dpf M B vs fs → Dp M B (.ref a) (.xcg a dd c fs)
  | clo {f : Addr} {c : Cap} : c.ok B → Dp M B (.ref f) (.clo f c)
inductive Dps (M : Md) (B : Hp) : List V → List D → Prop
  | nil : Dps M B [] []
  | cons {v : V} {d : D} {vs : List V} {ds : List D} : Dp M B v d → Dps M B vs ds → Dps M B (v :: vs) (d :: ds)
inductive Dpk (M : Md) (B : Hp) : List (Key × V) → List (D × D) → Prop
  | nil : Dpk M B [] []
  | cons {k : Key} {v : V} {d : D} {vs : List (Key × V)} {ds : List (D × D)} : Dp M B v d → Dpk M B vs ds → Dpk M B ((k, v) :: vs) ((keyD k, d) :: ds)
inductive Dpn (M : Md) (B : Hp) : List (NestedKey × Addr × V) → List (D × D) → Prop
  | nil : Dpn M B [] []
  | cons {k : NestedKey} {b : Addr} {v : V} {dk d : D} {vs : List (NestedKey × Addr × V)} {ds : List (D × D)} : keyN dk = some k → k.depth ≤ 8 → Dp M B (.ref b) dk → Dp M B v d → Dpn M B vs ds → Dpn M B ((k, b, v) :: vs) ((dk, d) :: ds)
inductive Dpf (M : Md) (B : Hp) : List (Str × V) → List (Str × D) → Prop
  | nil : Dpf M B [] []
  | cons {k : Str} {v : V} {d : D} {vs : List (Str × V)} {ds : List (Str × D)} : Dp M B v d → Dpf M B vs ds → Dpf M B ((k, v) :: vs) ((k, d) :: ds)
end

theorem Ex.refl (B : Hp) : Ex B B := fun _ _ h => h
theorem Ex.trans {B B1 B2 : Hp} (a : Ex B B1) (b : Ex B1 B2) : Ex B B2 := fun x o h => b x o (a x o h)
theorem Ex.new {B : Hp} {p : Addr} {o : HO} (h : B p = none) : Ex B (upd B p o) := fun a u e => by
  rw [upd_ne (ne_of_none e h)]; exact e
theorem Ex.free {B B' : Hp} (e : Ex B B') {p : Addr} (h : B' p = none) : B p = none := by
  cases q : B p with
  | none => rfl
  | some o => rw [e p o q] at h; cases h
theorem Ex.rd {B B' : Hp} {a : Addr} {u : HO} (e : Ex B B') (h : Rd B a u) : Rd B' a u := by
  rcases h with h | ⟨o, h⟩
  · exact .inl (e a _ h)
  · exact .inr ⟨o, e a _ h⟩
theorem Ex.sl {K : PySem.W.Frag} {B B' : Hp} {a : Addr} {xs : List V} (e : Ex B B') (h : SqL K B a xs) : SqL K B' a xs := by
  rcases h with h | h
  · exact .inl (e.rd h)
  · exact .inr h
theorem Ex.st {K : PySem.W.Frag} {B B' : Hp} {a : Addr} {xs : List V} (e : Ex B B') (h : SqT K B a xs) : SqT K B' a xs := by
  rcases h with h | h
  · exact .inl (e.rd h)
  · exact .inr h
theorem Ex.tt {K : PySem.W.Frag} {B B' : Hp} {a : Addr} {xs : List V} (e : Ex B B') (h : TupAt K B a xs) : TupAt K B' a xs := by
  rcases h with ⟨o, h1, h⟩ | h
  · exact .inl ⟨o, h1, e _ _ h⟩
  · exact .inr h
mutual
theorem Dp.mono {M : Md} {B B' : Hp} (e : Ex B B') : ∀ {v : V} {d : D}, Dp M B v d → Dp M B' v d
  | _, _, .non => .non
  | _, _, .bl b => .bl b
  | _, _, .int i => .int i
  | _, _, .str x => .str x
  | _, _, .ty n => .ty n
  | _, _, .ref a => .ref a
  | _, _, .tup s h => .tup (e.tt s) (Dps.mono e h)
  | _, _, .tpw s h => .tpw (e.st s) (Dps.mono e h)
  | _, _, .lst s h => .lst (e _ _ s) (Dps.mono e h)
  | _, _, .frl s h => .frl (e.sl s) (Dps.mono e h)
  | _, _, .dct s h => .dct (e _ _ s) (Dpk.mono e h)
  | _, _, .obj c s h => .obj c (e _ _ s) (Dpf.mono e h)
  | _, _, .cls c => .cls c
  | _, _, .exc c s t h => .exc c (e _ _ s) (e _ _ t) (Dpf.mono e h)
  | _, _, .dtt s h => .dtt (e _ _ s) (Dpn.mono e h)
  | _, _, .xcg c s h => .xcg c (e _ _ s) (Dpf.mono e h)
  | _, _, .clo h => .clo (Cap.mono _ _ _ e h)
theorem Dpn.mono {M : Md} {B B' : Hp} (e : Ex B B') : ∀ {v : List (NestedKey × Addr × V)} {d : List (D × D)}, Dpn M B v d → Dpn M B' v d
  | _, _, .nil => .nil
  | _, _, .cons h1 h2 h3 h4 t => .cons h1 h2 (Dp.mono e h3) (Dp.mono e h4) (Dpn.mono e t)
theorem Dps.mono {M : Md} {B B' : Hp} (e : Ex B B') : ∀ {v : List V} {d : List D}, Dps M B v d → Dps M B' v d
  | _, _, .nil => .nil
  | _, _, .cons h t => .cons (Dp.mono e h) (Dps.mono e t)
theorem Dpk.mono {M : Md} {B B' : Hp} (e : Ex B B') : ∀ {v : List (Key × V)} {d : List (D × D)}, Dpk M B v d → Dpk M B' v d
  | _, _, .nil => .nil
  | _, _, .cons h t => .cons (Dp.mono e h) (Dpk.mono e t)
theorem Dpf.mono {M : Md} {B B' : Hp} (e : Ex B B') : ∀ {v : List (Str × V)} {d : List (Str × D)}, Dpf M B v d → Dpf M B' v d
  | _, _, .nil => .nil
  | _, _, .cons h t => .cons (Dp.mono e h) (Dpf.mono e t)
end
theorem Dps.length {M : Md} {B : Hp} : ∀ {v : List V} {d : List D}, Dps M B v d → v.length = d.length
  | _, _, .nil => rfl
  | _, _, .cons _ t => by simp [Dps.length t]
theorem Dps.get {M : Md} {B : Hp} : ∀ {v : List V} {d : List D} {i : Nat} {x : D}, Dps M B v d → d[i]? = some x → ∃ u, v[i]? = some u ∧ Dp M B u x
  | _, _, _, _, .nil, e => by simp at e
  | _, _, 0, _, .cons h _, e => by simp at e; subst e; exact ⟨_, rfl, h⟩
  | _, _, i + 1, x, .cons _ t, e => by
    obtain ⟨u, h1, h2⟩ := Dps.get (i := i) (x := x) t (by simpa using e)
    exact ⟨u, by simpa using h1, h2⟩
theorem Dps.getV {M : Md} {B : Hp} : ∀ {v : List V} {d : List D} {i : Nat} {x : V}, Dps M B v d → v[i]? = some x → ∃ u, d[i]? = some u ∧ Dp M B x u
  | _, _, _, _, .nil, e => by simp at e
  | _, _, 0, _, .cons h _, e => by simp at e; subst e; exact ⟨_, rfl, h⟩
  | _, _, i + 1, x, .cons _ t, e => by
    obtain ⟨u, h1, h2⟩ := Dps.getV (i := i) (x := x) t (by simpa using e)
    exact ⟨u, by simpa using h1, h2⟩
theorem Dps.append {M : Md} {B : Hp} : ∀ {v w : List V} {d e : List D}, Dps M B v d → Dps M B w e → Dps M B (v ++ w) (d ++ e)
  | _, _, _, _, .nil, s => s
  | _, _, _, _, .cons h t, s => .cons h (Dps.append t s)
theorem Dps.take {M : Md} {B : Hp} : ∀ {v : List V} {d : List D} (n : Nat), Dps M B v d → Dps M B (v.take n) (d.take n)
  | _, _, 0, _ => .nil
  | _, _, _ + 1, .nil => .nil
  | _, _, n + 1, .cons h t => .cons h (Dps.take n t)
theorem Dps.drop {M : Md} {B : Hp} : ∀ {v : List V} {d : List D} (n : Nat), Dps M B v d → Dps M B (v.drop n) (d.drop n)
  | _, _, 0, h => h
  | _, _, _ + 1, .nil => .nil
  | _, _, n + 1, .cons _ t => Dps.drop n t
theorem Dps.rev {M : Md} {B : Hp} : ∀ {v : List V} {d : List D}, Dps M B v d → Dps M B v.reverse d.reverse
  | _, _, .nil => .nil
  | _, _, .cons h t => by
    rw [List.reverse_cons, List.reverse_cons]
    exact (Dps.rev t).append (.cons h .nil)
theorem Dps.strs {M : Md} {B : Hp} : ∀ (xs : List Str), Dps M B (xs.map V.str) (xs.map D.str)
  | [] => .nil
  | x :: r => .cons (.str x) (Dps.strs r)
theorem Dps.ints {M : Md} {B : Hp} : ∀ (xs : List Int), Dps M B (xs.map V.int) (xs.map D.int)
  | [] => .nil
  | x :: r => .cons (.int x) (Dps.ints r)
theorem Dps.ofStrs {M : Md} {B : Hp} : ∀ {v : List V} {xs : List Str}, Dps M B v (xs.map D.str) → v = xs.map V.str
  | _, [], h => by cases h; rfl
  | _, x :: r, h => by
    cases h with
    | cons h t => cases h; rw [Dps.ofStrs t]; rfl
theorem Dps.ofInts {M : Md} {B : Hp} : ∀ {v : List V} {xs : List Int}, Dps M B v (xs.map D.int) → v = xs.map V.int
  | _, [], h => by cases h; rfl
  | _, x :: r, h => by
    cases h with
    | cons h t => cases h; rw [Dps.ofInts t]; rfl
theorem Dps.ofBls {M : Md} {B : Hp} : ∀ {v : List V} {xs : List Bool}, Dps M B v (xs.map D.bl) → v = xs.map V.bl
  | _, [], h => by cases h; rfl
  | _, x :: r, h => by
    cases h with
    | cons h t => cases h; rw [Dps.ofBls t]; rfl

/-! ### what is kept beside the data: a resource, a frame -/
/-- what is told of a part of the heap, the data B given -/
structure Res where
  ok : Hp → Hp → Prop
  mono : ∀ (B B' G : Hp), Ex B B' → ok B G → ok B' G
def emp : Res := ⟨fun _ _ => True, fun _ _ _ _ h => h⟩
def Res.star (R S : Res) : Res := ⟨fun B G => ∃ G1 G2, Ex G1 G ∧ Ex G2 G ∧ (∀ a, G1 a = none ∨ G2 a = none) ∧ R.ok B G1 ∧ S.ok B G2,
  fun B B' G e ⟨G1, G2, h1, h2, h3, h4, h5⟩ => ⟨G1, G2, h1, h2, h3, R.mono B B' G1 e h4, S.mono B B' G2 e h5⟩⟩
/-- sys.modules is none of ours -/
def sysO (o : Obj) : HO := .ext fun h => h.get? sysModules = some o
structure Wd (R : Res) (B Fz H : Hp) : Prop where
  ex : Ex B H
  fz : Ex Fz H
  sys : ∃ o, Fz sysModules = some (sysO o)
  dis : ∀ a o, Fz a = some o → B a = none
  res : ∃ G, Ex G H ∧ (∀ a o, G a = some o → B a = none ∧ Fz a = none) ∧ R.ok B G
theorem Wd.new {R : Res} {B Fz H : Hp} {p : Addr} {o : HO} (w : Wd R B Fz H) (h : H p = none) : Wd R (upd B p o) Fz (upd H p o) where
  sys := w.sys
  ex := fun a u e => by
    by_cases q : a = p
    · subst q; rw [upd_same] at e ⊢; exact e
    · rw [upd_ne q] at e ⊢; exact w.ex a u e
  fz := fun a u e => by
    rw [upd_ne (ne_of_none (w.fz a u e) h)]; exact w.fz a u e
  dis := fun a u e => by
    rw [upd_ne (ne_of_none (w.fz a u e) h)]; exact w.dis a u e
  res := by
    obtain ⟨G, g1, g2, g3⟩ := w.res
    refine ⟨G, fun a u e => by rw [upd_ne (ne_of_none (g1 a u e) h)]; exact g1 a u e, fun a u e => ?_, R.mono _ _ _ (Ex.new (w.ex.free h)) g3⟩
    rw [upd_ne (ne_of_none (g1 a u e) h)]; exact g2 a u e
/-- an object that nobody keeps -/
theorem Wd.junk {R : Res} {B Fz H : Hp} {p : Addr} {o : HO} (w : Wd R B Fz H) (h : H p = none) : Wd R B Fz (upd H p o) where
  sys := w.sys
  ex := fun a u e => by rw [upd_ne (ne_of_none (w.ex a u e) h)]; exact w.ex a u e
  fz := fun a u e => by rw [upd_ne (ne_of_none (w.fz a u e) h)]; exact w.fz a u e
  dis := w.dis
  res := by
    obtain ⟨G, g1, g2, g3⟩ := w.res
    exact ⟨G, fun a u e => by rw [upd_ne (ne_of_none (g1 a u e) h)]; exact g1 a u e, g2, g3⟩
/-- a new object goes to the frame -/
theorem Wd.own {R : Res} {B Fz H : Hp} {p : Addr} {o : HO} (w : Wd R B Fz H) (h : H p = none) : Wd R B (upd Fz p o) (upd H p o) where
  sys := let ⟨o', e⟩ := w.sys; ⟨o', by rw [upd_ne (ne_of_none (w.fz _ _ e) h)]; exact e⟩
  ex := fun a u e => by rw [upd_ne (ne_of_none (w.ex a u e) h)]; exact w.ex a u e
  fz := fun a u e => by
    by_cases q : a = p
    · subst q; rw [upd_same] at e ⊢; exact e
    · rw [upd_ne q] at e ⊢; exact w.fz a u e
  dis := fun a u e => by
    by_cases q : a = p
    · subst q; exact w.ex.free h
    · rw [upd_ne q] at e; exact w.dis a u e
  res := by
    obtain ⟨G, g1, g2, g3⟩ := w.res
    refine ⟨G, fun a u e => by rw [upd_ne (ne_of_none (g1 a u e) h)]; exact g1 a u e, fun a u e => ?_, g3⟩
    rw [upd_ne (ne_of_none (g1 a u e) h)]; exact g2 a u e
/-- a thing of the frame changes -/
theorem Wd.turn {R : Res} {B Fz H : Hp} {p : Addr} {o u : HO} (w : Wd R B Fz H) (h : Fz p = some u) (hu : ∀ o', u ≠ sysO o') : Wd R B (upd Fz p o) (upd H p o) where
  sys := let ⟨o', e⟩ := w.sys; ⟨o', by rw [upd_ne (fun z => hu o' (by rw [← z, e] at h; exact (Option.some.inj h).symm))]; exact e⟩
  ex := fun a u' e => by
    have ne : a ≠ p := fun q => by subst q; rw [w.dis _ _ h] at e; cases e
    rw [upd_ne ne]; exact w.ex a u' e
  fz := fun a u e => by
    by_cases q : a = p
    · subst q; rw [upd_same] at e ⊢; exact e
    · rw [upd_ne q] at e ⊢; exact w.fz a u e
  dis := fun a u' e => by
    by_cases q : a = p
    · subst q; exact w.dis _ _ h
    · rw [upd_ne q] at e; exact w.dis a u' e
  res := by
    obtain ⟨G, g1, g2, g3⟩ := w.res
    have ne : ∀ a u', G a = some u' → a ≠ p := fun a u' e q => by subst q; have := (g2 _ _ e).2; rw [h] at this; cases this
    exact ⟨G, fun a u' e => by rw [upd_ne (ne a u' e)]; exact g1 a u' e, fun a u' e => ⟨(g2 a u' e).1, by rw [upd_ne (ne a u' e)]; exact (g2 a u' e).2⟩, g3⟩
def cutH (Fz : Hp) (p : Addr) : Hp := fun b => if b = p then none else Fz b
theorem cutH_ne {Fz : Hp} {p b : Addr} (h : b ≠ p) : cutH Fz p b = Fz b := by unfold cutH; rw [if_neg h]
theorem cutH_same {Fz : Hp} {p : Addr} : cutH Fz p p = none := by unfold cutH; rw [if_pos rfl]
/-- a thing of the frame goes to the data -/
theorem Wd.give {R : Res} {B Fz H : Hp} {p : Addr} {o : HO} (w : Wd R B Fz H) (h : Fz p = some o) (hu : ∀ o', o ≠ sysO o') : Wd R (upd B p o) (cutH Fz p) H where
  sys := let ⟨o', e⟩ := w.sys; ⟨o', by rw [cutH_ne (fun z => hu o' (by rw [← z, e] at h; exact (Option.some.inj h).symm))]; exact e⟩
  ex := fun a u e => by
    by_cases q : a = p
    · subst q; rw [upd_same] at e; cases e; exact w.fz _ _ h
    · rw [upd_ne q] at e; exact w.ex a u e
  fz := fun a u e => by
    by_cases q : a = p
    · subst q; rw [cutH_same] at e; cases e
    · rw [cutH_ne q] at e; exact w.fz a u e
  dis := fun a u e => by
    by_cases q : a = p
    · subst q; rw [cutH_same] at e; cases e
    · rw [cutH_ne q] at e; rw [upd_ne q]; exact w.dis a u e
  res := by
    obtain ⟨G, g1, g2, g3⟩ := w.res
    have ne : ∀ a u', G a = some u' → a ≠ p := fun a u' e q => by subst q; have := (g2 _ _ e).2; rw [h] at this; cases this
    exact ⟨G, g1, fun a u' e => by rw [upd_ne (ne a u' e), cutH_ne (ne a u' e)]; exact g2 a u' e, R.mono _ _ _ (Ex.new (w.dis _ _ h)) g3⟩
/-- less of the frame is told -/
theorem Wd.less {R : Res} {B Fz F0 H : Hp} (w : Wd R B Fz H) (h : Ex F0 Fz) (h0 : ∃ o, F0 sysModules = some (sysO o)) : Wd R B F0 H where
  sys := h0
  ex := w.ex
  fz := h.trans w.fz
  dis := fun a u e => w.dis a u (h a u e)
  res := let ⟨G, g1, g2, g3⟩ := w.res; ⟨G, g1, fun a u e => ⟨(g2 a u e).1, h.free (g2 a u e).2⟩, g3⟩
theorem Wd.free {R : Res} {B Fz H : Hp} {p : Addr} (w : Wd R B Fz H) (h : H p = none) : B p = none := w.ex.free h

abbrev Env := List (Option D)
structure Slots (M : Md) (B : Hp) (σ : L2.St) (ρ : Env) : Prop where
  len : σ.length = ρ.length
  get : ∀ (i : Nat) (d : D), ρ[i]? = some (some d) → d.isOwn = false → ∃ v, σ[i]? = some (some v) ∧ Dp M B v d
theorem Slots.mono {M : Md} {B B' : Hp} {σ : L2.St} {ρ : Env} (s : Slots M B σ ρ) (e : Ex B B') : Slots M B' σ ρ :=
  ⟨s.len, fun i d h n => let ⟨v, h1, h2⟩ := s.get i d h n; ⟨v, h1, h2.mono e⟩⟩
theorem Slots.set {M : Md} {B : Hp} {σ : L2.St} {ρ : Env} {i : Nat} {v : V} {d : D} (s : Slots M B σ ρ) (h : Dp M B v d) : Slots M B (σ.set i (some v)) (ρ.set i (some d)) where
  len := by rw [List.length_set, List.length_set]; exact s.len
  get := fun j x e n => by
    by_cases q : i = j
    · subst q
      have hl : i < ρ.length := by
        have := (List.getElem?_eq_some_iff.mp e).1
        rw [List.length_set] at this; exact this
      rw [List.getElem?_set_self hl] at e
      cases e
      exact ⟨v, List.getElem?_set_self (by rw [s.len]; exact hl), h⟩
    · rw [List.getElem?_set_ne q] at e ⊢
      exact s.get j x e n
theorem Slots.clear {M : Md} {B : Hp} {σ : L2.St} {ρ : Env} {i : Nat} (s : Slots M B σ ρ) : Slots M B (σ.set i none) (ρ.set i none) where
  len := by rw [List.length_set, List.length_set]; exact s.len
  get := fun j x e n => by
    by_cases q : i = j
    · subst q
      have hl : i < ρ.length := by
        have := (List.getElem?_eq_some_iff.mp e).1
        rw [List.length_set] at this; exact this
      rw [List.getElem?_set_self hl] at e
      cases e
    · rw [List.getElem?_set_ne q] at e ⊢
      exact s.get j x e n
/-- less is known -/
theorem Slots.less {M : Md} {B : Hp} {σ : L2.St} {ρ ρ' : Env} (s : Slots M B σ ρ) (hl : ρ'.length = ρ.length) (h : ∀ (i : Nat) (d : D), ρ'[i]? = some (some d) → ρ[i]? = some (some d)) : Slots M B σ ρ' :=
  ⟨by rw [hl]; exact s.len, fun i d e n => s.get i d (h i d e) n⟩
def startD (n : Nat) (ds : List D) : Env := ds.map some ++ List.replicate (n - ds.length) none
theorem Slots.ofStart {M : Md} {B : Hp} {N : List Str} {vs : List V} {ds : List D} (h : Dps M B vs ds) : Slots M B (L2.start N vs) (startD N.length ds) where
  len := by unfold L2.start startD; simp [h.length]
  get := fun i d e _ => by
    unfold startD at e
    unfold L2.start
    rw [List.getElem?_append] at e
    split at e
    · rename_i hi
      rw [List.length_map] at hi
      rw [List.getElem?_map] at e
      cases q : ds[i]? with
      | none => rw [q] at e; cases e
      | some x =>
        rw [q] at e
        cases e
        obtain ⟨v, h1, h2⟩ := h.get q
        refine ⟨v, ?_, h2⟩
        rw [List.getElem?_append_left (by rw [List.length_map, h.length]; exact hi), List.getElem?_map, h1]
        rfl
    · rw [List.getElem?_replicate] at e
      split at e <;> cases e
def wipeD (ρ : Env) : List Nat → Env
  | [] => ρ
  | v :: vs => (wipeD ρ vs).set v none
theorem Slots.wipe {M : Md} {B : Hp} {σ : L2.St} {ρ : Env} (s : Slots M B σ ρ) : ∀ vs : List Nat, Slots M B (L2.wipe σ vs) (wipeD ρ vs)
  | [] => s
  | _ :: vs => (Slots.wipe s vs).clear

/-! ### readings over data -/
abbrev DQ := Res → D → Prop
/-- of an exception: its class by name, its fields -/
abbrev DX := Res → Str → List (Str × D) → Prop
abbrev DT := Res → Env → DQ → DX → Prop
abbrev DA := Res → Env → (Res → List D → Prop) → DX → Prop
abbrev DB := Res → Env → (Res → Bool → Prop) → DX → Prop

/-- an exception's way out -/
def XL (M : Md) (W : WX) (B Fz : Hp) (σ : L2.St) (E : DX) : Prop :=
  ∀ (R : Res) (c : Str) (C dd : Addr) (H' B' : Hp) (vs : List (Str × V)) (fs : List (Str × D)), M.mg c = some (.ref C) → Ex B B' → Wd R B' Fz H' → B' dd = some (.xd vs) → Dpf M B' vs fs → E R c fs → W (.ref C) (some dd) σ H'
theorem XL.mono {M : Md} {W : WX} {B B1 Fz : Hp} {σ : L2.St} {E : DX} (x : XL M W B Fz σ E) (e : Ex B B1) : XL M W B1 Fz σ E :=
  fun R c C dd H' B' vs fs h1 h2 h3 h4 h5 h6 => x R c C dd H' B' vs fs h1 (e.trans h2) h3 h4 h5 h6
/-- what follows a value -/
def VP (M : Md) (R : Res) (B Fz : Hp) (Qd : D → Prop) (Q : VK) : Prop := ∀ (v : V) (H' B' : Hp) (d : D), Ex B B' → Wd R B' Fz H' → Dp M B' v d → Qd d → Q v H'
def VL (M : Md) (B Fz : Hp) (Qd : DQ) (Q : VK) : Prop := ∀ (R : Res) (v : V) (H' B' : Hp) (d : D), Ex B B' → Wd R B' Fz H' → Dp M B' v d → Qd R d → Q v H'
theorem VL.at {M : Md} {B Fz : Hp} {Qd : DQ} {Q : VK} (x : VL M B Fz Qd Q) (R : Res) : VP M R B Fz (Qd R) Q := fun v H' B' d h1 h2 h3 h4 => x R v H' B' d h1 h2 h3 h4
theorem VL.mono {M : Md} {B B1 Fz : Hp} {Qd : DQ} {Q : VK} (x : VL M B Fz Qd Q) (e : Ex B B1) : VL M B1 Fz Qd Q :=
  fun R v H' B' d h1 h2 h3 h4 => x R v H' B' d (e.trans h1) h2 h3 h4
theorem VP.mono {M : Md} {R : Res} {B B1 Fz : Hp} {Qd : D → Prop} {Q : VK} (x : VP M R B Fz Qd Q) (e : Ex B B1) : VP M R B1 Fz Qd Q :=
  fun v H' B' d h1 h2 h3 h4 => x v H' B' d (e.trans h1) h2 h3 h4

def lift (M : Md) (W : WX) (t : DT) : TE := fun σ H Q => ∃ (R : Res) (Fz B : Hp) (ρ : Env) (Qd : DQ) (E : DX), Wd R B Fz H ∧ Slots M B σ ρ ∧ t R ρ Qd E ∧ VL M B Fz Qd Q ∧ XL M W B Fz σ E
def liftA (M : Md) (W : WX) (t : DA) : TA := fun σ H Q => ∃ (R : Res) (Fz B : Hp) (ρ : Env) (Qd : Res → List D → Prop) (E : DX), Wd R B Fz H ∧ Slots M B σ ρ ∧ t R ρ Qd E ∧
  (∀ (R : Res) (v : List V) (H' B' : Hp) (d : List D), Ex B B' → Wd R B' Fz H' → Dps M B' v d → Qd R d → Q v H') ∧ XL M W B Fz σ E
def liftB (M : Md) (W : WX) (t : DB) : TT := fun σ H Q => ∃ (R : Res) (Fz B : Hp) (ρ : Env) (Qd : Res → Bool → Prop) (E : DX), Wd R B Fz H ∧ Slots M B σ ρ ∧ t R ρ Qd E ∧
  (∀ (R : Res) (b : Bool) (H' B' : Hp), Ex B B' → Wd R B' Fz H' → Qd R b → Q b H') ∧ XL M W B Fz σ E

abbrev DE (X : Cx) (W : WX) (e : Expr) (t : DT) : Prop := PE X e (lift X.md W t)
abbrev DAs (X : Cx) (W : WX) (es : List Expr) (t : DA) : Prop := PA X es (liftA X.md W t)
abbrev DTt (X : Cx) (W : WX) (e : Expr) (t : DB) : Prop := PT X e (liftB X.md W t)
theorem _root_.L2.PE.imp {X : Cx} {e : Expr} {t t' : TE} (h : PE X e t) (f : ∀ σ H Q, t' σ H Q → t σ H Q) : PE X e t' := ⟨fun pins s σ H Q I q => h.run pins s σ H Q I (f σ H Q q)⟩
theorem _root_.L2.PA.imp {X : Cx} {e : List Expr} {t t' : TA} (h : PA X e t) (f : ∀ σ H Q, t' σ H Q → t σ H Q) : PA X e t' := ⟨fun pos pins s σ H Q I q => h.run pos pins s σ H Q I (f σ H Q q)⟩
theorem _root_.L2.PT.imp {X : Cx} {e : Expr} {t t' : TT} (h : PT X e t) (f : ∀ σ H Q, t' σ H Q → t σ H Q) : PT X e t' := ⟨fun pins s σ H Q I q => h.run pins s σ H Q I (f σ H Q q)⟩
theorem _root_.L2.PS.imp {X : Cx} {e : Stmt} {t t' : TS} (h : PS X e t) (f : ∀ D σ H, t' D σ H → t D σ H) : PS X e t' := ⟨fun pins s σ H D I q => h.run pins s σ H D I (f D σ H q)⟩
theorem _root_.L2.PSs.imp {X : Cx} {e : List Stmt} {t t' : TS} (h : PSs X e t) (f : ∀ D σ H, t' D σ H → t D σ H) : PSs X e t' := ⟨fun pins s σ H D I q => h.run pins s σ H D I (f D σ H q)⟩

section
variable {X : Cx} {W : WX} {a b e : Expr} {es : List Expr} {ta tb t : DT} {pos : Pos}
def dVar (i : Nat) : DT := fun R ρ Q _ => ∃ d, ρ[i]? = some (some d) ∧ d.isOwn = false ∧ Q R d
def dC (d : D) : DT := fun R _ Q _ => Q R d
theorem de_var (i : Nat) {x : Str} (hN : X.N[i]? = some x := by rfl) (hv : Vis X.env.scope x := by first | exact Or.inl rfl | exact Or.inr (Or.inl rfl) | exact Or.inr (Or.inr rfl)) (hd : (x == ("__debug__" : Str)) = false := by decide)
    (hcd : (x == ("__classdict__" : Str)) = false := by decide) : DE X W (.Name x pos) (dVar i) :=
  (pe_var hN hv hd hcd).imp fun σ H Q ⟨R, Fz, B, ρ, Qd, E, w, sl, ⟨d, hd, hn, q⟩, k, _⟩ =>
    let ⟨v, h1, h2⟩ := sl.get i d hd hn
    ⟨v, h1, k R v H B d (Ex.refl B) w h2 q⟩
theorem de_c {v : V} {d : D} (h : PE X e (tC v)) (hv : ∀ B, Dp X.md B v d) : DE X W e (dC d) :=
  h.imp fun σ H Q ⟨R, Fz, B, ρ, Qd, E, w, sl, q, k, _⟩ => k R v H B d (Ex.refl B) w (hv B) q
theorem de_int {i j} : DE X W (.Constant (.int i) j pos) (dC (.int i)) := de_c pe_int fun _ => .int i
theorem de_bl {b j} : DE X W (.Constant (.bool b) j pos) (dC (.bl b)) := de_c pe_bl fun _ => .bl b
theorem de_non {j} : DE X W (.Constant .none j pos) (dC .non) := de_c pe_non fun _ => .non
theorem de_str {x j} : DE X W (.Constant (.str x) j pos) (dC (.str x)) := de_c pe_str fun _ => .str x
theorem de_gint {x : Str} {i : Int} {u : Tok} (hg : Gl X x) (hm : X.mg x = some (.int i u)) (hd : (x == ("__debug__" : Str)) = false := by decide) : DE X W (.Name x pos) (dC (.int i)) := de_c (pe_glob (v := .int i) hg hm ⟨u, rfl⟩ hd) fun _ => .int i
theorem de_gstr {x : Str} {i : Str} {u : Tok} (hg : Gl X x) (hm : X.mg x = some (.str i u)) (hd : (x == ("__debug__" : Str)) = false := by decide) : DE X W (.Name x pos) (dC (.str i)) := de_c (pe_glob (v := .str i) hg hm ⟨u, rfl⟩ hd) fun _ => .str i

/-! ### operators -/
abbrev F2 := D → D → (D → Prop) → Prop
def OpD (M : Md) (r : R2) (f : F2) : Prop := ∀ (R : Res) (Fz B H : Hp) (x y : V) (dx dy : D) (Qd : D → Prop) (Q : VK), Wd R B Fz H → Dp M B x dx → Dp M B y dy → f dx dy Qd → VP M R B Fz Qd Q → r x y H Q
def dBin (f : F2) (ta tb : DT) : DT := fun R ρ Q E => ta R ρ (fun R x => tb R ρ (fun R y => f x y (Q R)) E) E
/-- two operands in turn -/
theorem lift2 {M : Md} {r : R2} {f : F2} (hf : OpD M r f) {σ : L2.St} {H : Hp} {Q : VK} (h : lift M W (dBin f ta tb) σ H Q) : tOp r (lift M W ta) (lift M W tb) σ H Q := by
  obtain ⟨R, Fz, B, ρ, Qd, E, w, sl, q, k, x⟩ := h
  refine ⟨R, Fz, B, ρ, _, E, w, sl, q, fun R1 v H1 B1 d e1 w1 h1 q1 => ?_, x⟩
  refine ⟨R1, Fz, B1, ρ, _, E, w1, sl.mono e1, q1, fun R2 u H2 B2 d2 e2 w2 h2 q2 => ?_, x.mono e1⟩
  exact hf R2 Fz B2 H2 v u d d2 _ Q w2 (h1.mono e2) h2 q2 ((k.mono (e1.trans e2)).at R2)
theorem de_bin {op : Operator} {r : R2} {f : F2} (ho : OpR X (binaryOp op) r) (hf : OpD X.md r f) (ha : DE X W a ta) (hb : DE X W b tb) : DE X W (.BinOp a op b pos) (dBin f ta tb) :=
  (pe_op ho ha hb).imp fun _ _ _ h => lift2 hf h
theorem de_cmp {op : CmpOp} {r : R2} {f : F2} (ho : OpR X (compareOp op) r) (hf : OpD X.md r f) (ha : DE X W a ta) (hb : DE X W b tb) (hm : behindInMarks op b = false) : DE X W (.Compare a [op] [b] pos) (dBin f ta tb) :=
  (pe_cmpR ho ha hb hm).imp fun _ _ _ h => lift2 hf h
def dTest (t : DT) : DB := fun R ρ Q E => t R ρ (fun R d => ∃ b, d = .bl b ∧ Q R b) E
theorem Dp.ofBl {M : Md} {B : Hp} {v : V} {b : Bool} (h : Dp M B v (.bl b)) : v = .bl b := by cases h; rfl
theorem Dp.ofInt {M : Md} {B : Hp} {v : V} {b : Int} (h : Dp M B v (.int b)) : v = .int b := by cases h; rfl
theorem Dp.ofStr {M : Md} {B : Hp} {v : V} {b : Str} (h : Dp M B v (.str b)) : v = .str b := by cases h; rfl
theorem Dp.ofNon {M : Md} {B : Hp} {v : V} (h : Dp M B v .non) : v = .non := by cases h; rfl
theorem dt_cmp {op : CmpOp} {r : R2} {f : F2} (ho : OpR X (compareOp op) r) (hf : OpD X.md r f) (ha : DE X W a ta) (hb : DE X W b tb) (hm : behindInMarks op b = false) : DTt X W (.Compare a [op] [b] pos) (dTest (dBin f ta tb)) :=
  (pt_cmpR ho ha hb hm).imp fun σ H Q ⟨R, Fz, B, ρ, Qd, E, w, sl, q, k, x⟩ =>
    lift2 hf ⟨R, Fz, B, ρ, _, E, w, sl, q, fun R v H1 B1 d e1 w1 h1 ⟨b, hb, q1⟩ => by subst hb; exact ⟨b, h1.ofBl, k R b H1 B1 e1 w1 q1⟩, x⟩
end
end DL

set_option Elab.async false
set_option linter.all false
set_option maxRecDepth 100000
set_option maxHeartbeats 400000
namespace DL
open PySem L2 PySem.Spec PyProof.Rows
/-! ### new tuples, with their object told -/
section
variable {X : Cx} {e : Expr} {es : List Expr} {t : TA} {pos : Pos}
theorem laid_tup {pins : List (Addr × Obj)} {σ : L2.St} {H : Hp} {s : Shared} {xs : List V} {us : List Value} {n : Nat} (I : Inv X pins σ H s) (r : Vals xs us) (z : xs.length ≤ sizeLine) :
    Inv X pins σ (upd H s.heap.objs.size (.frz { cls := .type "tuple", data := .seq us.toArray n } (.tup xs))) { s with heap := s.heap.push { cls := .type "tuple", data := .seq us.toArray n } } :=
  I.laid (t' := s.toks) (fun b u e => Heap.get?_push_of_some _ e) (Nat.le_refl _) ⟨Heap.get?_push_size _ rfl, z, us, r, ⟨_, Heap.get?_push_size _ rfl, rfl, _, rfl⟩⟩
def tTupF (t : TA) : TE := fun σ H Q => t σ H fun xs H1 => xs.length ≤ sizeLine ∧ ∀ p (o : Obj), H1 p = none → o.dict = none → Q (.ref p) (upd H1 p (.frz o (.tup xs)))
theorem pe_tupF {k} (h : PA X es t) : PE X (.Tuple es k pos) (tTupF t) := ⟨fun pins s σ H Q I hq =>
  wpAny_Tuple_spliced (thn (h.run pos pins s σ H _ I hq) fun us s1 ⟨xs, H1, I1, r, z, q⟩ => ⟨by rw [← r.length]; exact z, .ref _, _, laid_tup I1 r z, rfl, q _ _ (I1.hok.fresh (Nat.le_refl _)) rfl⟩)⟩
def rCatF (K : PySem.W.Frag) : R2 := fun x y H Q => ∃ a b xs ys, x = .ref a ∧ y = .ref b ∧ SqT K H a xs ∧ SqT K H b ys ∧ xs.length + ys.length ≤ sizeLine ∧
  (xs = [] → Q (.ref b) H) ∧ (xs ≠ [] → ys = [] → Q (.ref a) H) ∧ (xs ≠ [] → ys ≠ [] → ∀ p (o : Obj), H p = none → o.dict = none → Q (.ref p) (upd H p (.frz o (.tup (xs ++ ys)))))
theorem op_catF : OpR X (binaryOp .Add) (rCatF X.K) := by
  rintro pins s σ H _ _ v u Q I rx ry ⟨a, b, xs, ys, rfl, rfl, ha, hb, hz, q0, q1, q2⟩
  obtain ⟨its, r1, p1, _⟩ := I.tuple ha
  obtain ⟨its2, r2, p2, _⟩ := I.tuple hb
  have hz' : (xs ++ ys).length ≤ sizeLine := by rw [List.length_append]; exact hz
  cases rx; cases ry
  by_cases hx : xs = []
  · subst hx
    cases r1
    exact cat_tup0 p1 p2 ⟨.ref b, H, I, rfl, q0 rfl⟩
  · exact HT.cat_tup p1 p2 (fun z => hx (r1.nil_iff.mp z)) (fun z => ⟨.ref a, H, I, rfl, q1 hx (r2.nil_iff.mp z)⟩) (fun z => ⟨.ref _, _, laid_tup I (r1.append r2) hz', rfl, q2 hx (fun c => z (r2.nil_iff.mpr c)) _ _ (I.hok.fresh (Nat.le_refl _)) rfl⟩) (by rw [← r1.length, ← r2.length]; exact hz)
def rSlF (K : PySem.W.Frag) : V → Option Int → Option Int → Hp → VK → Prop := fun x lo hi H Q => ∃ a xs, x = .ref a ∧ SqT K H a xs ∧
  (HT.sIx xs.length 0 lo = 0 ∧ HT.sIx xs.length xs.length hi = xs.length → Q (.ref a) H) ∧ (¬ (HT.sIx xs.length 0 lo = 0 ∧ HT.sIx xs.length xs.length hi = xs.length) → ∀ p (o : Obj), H p = none → o.dict = none → Q (.ref p) (upd H p (.frz o (.tup (cutV xs lo hi)))))
theorem sl_tupF : SlR X (rSlF X.K) := by
  rintro pins s σ H _ v vl vu lo hi sl Q I rx hs pl pu ⟨a, xs, rfl, hx, q1, q2⟩
  obtain ⟨its, r, ht, hz⟩ := I.tuple hx
  have hlen : its.toArray.size = xs.length := by rw [List.size_toArray]; exact r.length.symm
  cases rx
  refine ⟨"tuple", _, PyProof.Rows.slot_tuple_getitem.lookup, ht.typeIs, ?_⟩
  by_cases hw : HT.sIx xs.length 0 lo = 0 ∧ HT.sIx xs.length xs.length hi = xs.length
  · exact getItem_tuple_whole ht hs pl pu (by rw [hlen]; exact hw) ⟨.ref a, H, I, rfl, q1 hw⟩
  · refine HT.getItem_tuple_cut ht hs pl pu (by rw [hlen]; exact hw) ?_ (by rw [hlen]; exact hz)
    rw [hlen]
    exact ⟨.ref _, _, laid_tup I ((r.drop (HT.sIx xs.length 0 lo)).take (HT.sIx xs.length xs.length hi - HT.sIx xs.length 0 lo)) (Nat.le_trans (cutV_length xs lo hi) hz), rfl, q2 hw _ _ (I.hok.fresh (Nat.le_refl _)) rfl⟩
theorem call_tupleF : CallR X (.type "tuple") (fun xs H Q => ∃ p ys, xs = [.ref p] ∧ ((SqL X.K H p ys ∧ ∀ l (o : Obj), H l = none → o.dict = none → Q (.ref l) (upd H l (.frz o (.tup ys)))) ∨ (SqT X.K H p ys ∧ Q (.ref p) H))) := by
  rintro pins s σ H _ us Q I r ⟨p, ys, rfl, h⟩
  obtain ⟨u, rfl, rx⟩ := vals1 r
  cases rx
  rcases h with ⟨hq, q⟩ | ⟨hq, q⟩
  · obtain ⟨its, r', pl, hz⟩ := I.list hq
    refine call_tuple_list pl.isList (fun h' kp => ?_) (by rw [List.size_toArray, ← r'.length]; exact hz)
    have I1 : Inv X pins σ H { s with heap := h' } := I.kept (t' := s.toks) kp
    exact ⟨.ref _, _, laid_tup I1 r' hz, rfl, q _ _ (I1.hok.fresh (Nat.le_refl _)) rfl⟩
  · obtain ⟨its, r', pl, hz⟩ := I.tuple hq
    exact call_tuple_same pl ⟨.ref p, H, I, rfl, q⟩
end
end DL

set_option Elab.async false
set_option linter.all false
set_option maxRecDepth 100000
set_option maxHeartbeats 400000
namespace DL
open PySem L2

/-! ### data that Python's own comparisons know -/
mutual
def D.py : D → PyData
  | .non => .none | .bl b => .bool b | .int i => .int i | .str x => .str x
  | .tup ds => .tuple (D.pys ds) | .lst ds => .list (D.pys ds) | .frl ds => .list (D.pys ds) | .tpw ds => .tuple (D.pys ds) | .dct kvs => .dict (D.pyk kvs)
  | .obj _ _ => .none | .exc _ _ => .none | .cls _ => .none | .ref _ => .none | .ty _ => .none | .own _ => .none | .dtt kvs => .dict (D.pyk kvs) | .xcg _ _ _ _ => .none | .clo _ _ => .none
def D.pys : List D → List PyData
  | [] => [] | d :: r => d.py :: D.pys r
def D.pyk : List (D × D) → List (PyData × PyData)
  | [] => [] | (k, d) :: r => (k.py, d.py) :: D.pyk r
end
mutual
/-- no dict, no object in it -/
def D.pure : D → Bool
  | .non => true | .bl _ => true | .int _ => true | .str _ => true
  | .tup ds => D.pures ds | .lst ds => D.pures ds | .frl _ => false | .tpw _ => false | .dct _ => false
  | .obj _ _ => false | .exc _ _ => false | .cls _ => false | .ref _ => false | .ty _ => false | .own _ => false | .dtt _ => false | .xcg _ _ _ _ => false | .clo _ _ => false
def D.pures : List D → Bool
  | [] => true | d :: r => d.pure && D.pures r
end
mutual
theorem Dp.py' {M : Md} {B : Hp} : ∀ (d : D) {v : V}, Dp M B v d → d.pure = true → L2.Dp M.K B v d.py
  | .non, _, h, _ => by cases h; exact .non
  | .bl b, _, h, _ => by cases h; exact .bl b
  | .int i, _, h, _ => by cases h; exact .int i
  | .str x, _, h, _ => by cases h; exact .str x
  | .tup ds, _, h, p => by
    cases h with
    | tup s h => exact .tup s.st (Dps.py' ds h p)
  | .lst ds, _, h, p => by
    cases h with
    | lst s h => exact .lst (.inl (.inl s)) (Dps.py' ds h p)
  | .frl _, _, _, p => nomatch p
  | .tpw _, _, _, p => nomatch p
  | .dct _, _, _, p => nomatch p
  | .obj _ _, _, _, p => nomatch p
  | .exc _ _, _, _, p => nomatch p
  | .cls _, _, _, p => nomatch p
  | .ref _, _, _, p => nomatch p
  | .ty _, _, _, p => nomatch p
  | .own _, _, _, p => nomatch p
  | .dtt _, _, _, p => nomatch p
  | .xcg _ _ _ _, _, _, p => nomatch p
  | .clo _ _, _, _, p => nomatch p
theorem Dps.py' {M : Md} {B : Hp} : ∀ (d : List D) {v : List V}, Dps M B v d → D.pures d = true → L2.DpAll M.K B v (D.pys d)
  | [], _, h, _ => by cases h; exact .nil
  | d :: r, _, h, p => by
    cases h with
    | cons h t =>
      have q := Bool.and_eq_true_iff.mp p
      exact .cons (Dp.py' d h q.1) (Dps.py' r t q.2)
end
theorem Dp.py {M : Md} {B : Hp} {v : V} {d : D} (h : Dp M B v d) (p : d.pure = true) : L2.Dp M.K B v d.py := Dp.py' d h p
theorem Dps.py {M : Md} {B : Hp} {v : List V} {d : List D} (h : Dps M B v d) (p : D.pures d = true) : L2.DpAll M.K B v (D.pys d) := Dps.py' d h p
mutual
theorem dp2_mono {K : PySem.W.Frag} {B B' : Hp} (e : Ex B B') : ∀ {v : V} {d : PyData}, L2.Dp K B v d → L2.Dp K B' v d
  | _, _, .non => .non
  | _, _, .bl b => .bl b
  | _, _, .int i => .int i
  | _, _, .str x => .str x
  | _, _, .lst s h => .lst (e.sl s) (dp2s_mono e h)
  | _, _, .tup s h => .tup (e.st s) (dp2s_mono e h)
theorem dp2s_mono {K : PySem.W.Frag} {B B' : Hp} (e : Ex B B') : ∀ {v : List V} {d : List PyData}, L2.DpAll K B v d → L2.DpAll K B' v d
  | _, _, .nil => .nil
  | _, _, .cons h t => .cons (dp2_mono e h) (dp2s_mono e t)
end
theorem pys_map (ds : List D) : D.pys ds = ds.map D.py := by
  induction ds with
  | nil => rfl
  | cons d r ih => rw [D.pys, ih]; rfl
/-- may be compared whatever it is with -/
def D.fit (d : D) : Bool := d.pure && SeqAt.shaped d.py
def D.eqv (d e : D) : Bool := PyData.eqv d.py e.py

section
variable {X : Cx} {W : WX} {a b c e : Expr} {es : List Expr} {ta tb tc t : DT} {pos : Pos}
/-! ### + - * // % -/
def fAdd : F2
  | .int i, .int j, Q => Q (.int (i + j))
  | .str x, .str y, Q => x.length + y.length ≤ sizeLine ∧ Q (.str (x ++ y))
  | .tup x, .tup y, Q => x.length + y.length ≤ sizeLine ∧ Q (.tup (x ++ y))
  | .lst x, .lst y, Q => x.length + y.length ≤ sizeLine ∧ Q (.lst (x ++ y))
  | _, _, _ => False
def rAddS : R2 := fun x y H Q => ∃ i j, x = .str i ∧ y = .str j ∧ i.length + j.length ≤ sizeLine ∧ Q (.str (i ++ j)) H
abbrev rAddAll (K : PySem.W.Frag) : R2 := fun x y H Q => (rI0 fun i j => .int (i + j)) x y H Q ∨ (fun x y H Q => rAddS x y H Q ∨ (fun x y H Q => rCatF K x y H Q ∨ rCat x y H Q) x y H Q) x y H Q
theorem opAdd : OpR X (binaryOp .Add) (rAddAll X.K) := op_add.or ((show OpR X (binaryOp .Add) rAddS from op_add_str).or (op_catF.or op_cat))
theorem fAdd_ok {M : Md} : OpD M (rAddAll M.K) fAdd := by
  intro R Fz B H x y dx dy Qd Q w hx hy h k
  unfold fAdd at h
  split at h
  · cases hx; cases hy
    exact .inl ⟨_, _, rfl, rfl, k _ H B _ (Ex.refl B) w (.int _) h⟩
  · cases hx; cases hy
    exact .inr (.inl ⟨_, _, rfl, rfl, h.1, k _ H B _ (Ex.refl B) w (.str _) h.2⟩)
  · cases hx with
    | @tup a xs _ sx hx =>
    cases hy with
    | @tup b ys _ sy hy =>
    have l1 := hx.length
    have l2 := hy.length
    refine .inr (.inr (.inl ⟨a, b, xs, ys, rfl, rfl, w.ex.st sx.st, w.ex.st sy.st, by omega, fun e => ?_, fun _ e => ?_, fun _ _ p o hp ho => ?_⟩))
    · subst e; cases hx
      exact k _ H B _ (Ex.refl B) w (.tup sy hy) h.2
    · subst e; cases hy
      refine k _ H B _ (Ex.refl B) w (.tup sx hx) ?_
      have := h.2; rwa [List.append_nil] at this
    · exact k _ _ _ _ (Ex.new (w.free hp)) (w.new hp) (.tup (.new ho) ((hx.append hy).mono (Ex.new (w.free hp)))) h.2
  · cases hx with
    | @lst a xs _ sx hx =>
    cases hy with
    | @lst b ys _ sy hy =>
    have l1 := hx.length
    have l2 := hy.length
    refine .inr (.inr (.inr ⟨a, b, xs, ys, rfl, rfl, w.ex _ _ sx, w.ex _ _ sy, by omega, fun p hp => ?_⟩))
    exact k _ _ _ _ (Ex.new (w.free hp)) (w.new hp) (.lst upd_same ((hx.append hy).mono (Ex.new (w.free hp)))) h.2
  · exact h.elim
theorem de_add (ha : DE X W a ta) (hb : DE X W b tb) : DE X W (.BinOp a .Add b pos) (dBin fAdd ta tb) := de_bin opAdd fAdd_ok ha hb

def fI (C : Int → Int → Prop) (g : Int → Int → D) : F2
  | .int i, .int j, Q => C i j ∧ Q (g i j)
  | _, _, _ => False
theorem fI_ok {M : Md} {C : Int → Int → Prop} {g : Int → Int → Int} : OpD M (rI C fun i j => .int (g i j)) (fI C fun i j => .int (g i j)) := by
  intro R Fz B H x y dx dy Qd Q w hx hy h k
  unfold fI at h
  split at h
  · cases hx; cases hy
    exact ⟨_, _, rfl, rfl, h.1, k _ H B _ (Ex.refl B) w (.int _) h.2⟩
  · exact h.elim
theorem fI0_ok {M : Md} {g : Int → Int → Int} : OpD M (rI0 fun i j => .int (g i j)) (fI (fun _ _ => True) fun i j => .int (g i j)) := by
  intro R Fz B H x y dx dy Qd Q w hx hy h k
  unfold fI at h
  split at h
  · cases hx; cases hy
    exact ⟨_, _, rfl, rfl, k _ H B _ (Ex.refl B) w (.int _) h.2⟩
  · exact h.elim
theorem fIB_ok {M : Md} {g : Int → Int → Bool} : OpD M (rI0 fun i j => .bl (g i j)) (fI (fun _ _ => True) fun i j => .bl (g i j)) := by
  intro R Fz B H x y dx dy Qd Q w hx hy h k
  unfold fI at h
  split at h
  · cases hx; cases hy
    exact ⟨_, _, rfl, rfl, k _ H B _ (Ex.refl B) w (.bl _) h.2⟩
  · exact h.elim
abbrev fSub : F2 := fI (fun _ _ => True) fun i j => .int (i - j)
theorem de_sub (ha : DE X W a ta) (hb : DE X W b tb) : DE X W (.BinOp a .Sub b pos) (dBin fSub ta tb) := de_bin op_sub fI0_ok ha hb
abbrev fMod : F2 := fI (fun _ j => 0 < j) fun i j => .int (i % j)
theorem de_mod (ha : DE X W a ta) (hb : DE X W b tb) : DE X W (.BinOp a .Mod b pos) (dBin fMod ta tb) := de_bin op_mod fI_ok ha hb
abbrev fDiv : F2 := fI CDiv fun i j => .int (i / j)
theorem de_div (ha : DE X W a ta) (hb : DE X W b tb) : DE X W (.BinOp a .FloorDiv b pos) (dBin fDiv ta tb) := de_bin op_fdiv fI_ok ha hb
abbrev fPow : F2 := fI CPow fun i j => .int (i ^ j.toNat)
theorem de_pow (ha : DE X W a ta) (hb : DE X W b tb) : DE X W (.BinOp a .Pow b pos) (dBin fPow ta tb) := de_bin op_pow fI_ok ha hb

/-! ### comparisons of ints and texts -/
def fOrd (p : Int → Int → Bool) (q : List Nat → List Nat → Bool) : F2
  | .int i, .int j, Q => Q (.bl (p i j))
  | .str x, .str y, Q => Q (.bl (q x.cps.toList y.cps.toList))
  | _, _, _ => False
def rOrd (p : Int → Int → Bool) (q : List Nat → List Nat → Bool) : R2 := fun x y H Q => (rI0 fun i j => .bl (p i j)) x y H Q ∨ (fun x y H Q => ∃ i j : Str, x = .str i ∧ y = .str j ∧ Q (.bl (q i.cps.toList j.cps.toList)) H) x y H Q
theorem fOrd_ok {M : Md} {p : Int → Int → Bool} {q : List Nat → List Nat → Bool} : OpD M (rOrd p q) (fOrd p q) := by
  intro R Fz B H x y dx dy Qd Q w hx hy h k
  unfold fOrd at h
  split at h
  · cases hx; cases hy
    exact .inl ⟨_, _, rfl, rfl, k _ H B _ (Ex.refl B) w (.bl _) h⟩
  · cases hx; cases hy
    exact .inr ⟨_, _, rfl, rfl, k _ H B _ (Ex.refl B) w (.bl _) h⟩
  · exact h.elim
abbrev fLt : F2 := fOrd (fun i j => decide (i < j)) (fun x y => decide (x < y))
abbrev fLe : F2 := fOrd (fun i j => decide (i ≤ j)) (fun x y => !decide (y < x))
abbrev fGt : F2 := fOrd (fun i j => decide (j < i)) (fun x y => decide (y < x))
abbrev fGe : F2 := fOrd (fun i j => decide (j ≤ i)) (fun x y => !decide (x < y))

end
end DL

set_option Elab.async false
set_option linter.all false
set_option maxRecDepth 100000
set_option maxHeartbeats 400000
namespace DL
open PySem L2

/-! ### equality -/
theorem fit_pure {d : D} (h : d.fit = true) : d.pure = true := (Bool.and_eq_true_iff.mp h).1
theorem fit_shaped {d : D} (h : d.fit = true) : SeqAt.shaped d.py = true := (Bool.and_eq_true_iff.mp h).2
section
variable {X : Cx} {pins : List (Addr × Obj)} {σ : L2.St} {H B : Hp} {s : Shared}
theorem eqAt_fit (I : Inv X pins σ H s) (ex : Ex B H) {A : Around} {x y : V} {u v : Value} {dx dy : D} (hx : Dp X.md B x dx) (hy : Dp X.md B y dy) (rx : RelV x u) (ry : RelV y v) (fx : dx.fit = true) (fy : dy.fit = true)
    (hu : A.units + 64 < cLine) : SeqAt.EqAt A s u v (dx.eqv dy) := by
  obtain ⟨as, r1⟩ := L2.Dp.reads I dx.py x u (dp2_mono ex (hx.py (fit_pure fx))) rx
  obtain ⟨bs, r2⟩ := L2.Dp.reads I dy.py y v (dp2_mono ex (hy.py (fit_pure fy))) ry
  exact SeqAt.eqAt_reads _ _ A s u v as bs r1 r2 (SeqAt.canLay_of_shaped (fit_shaped fx)) (SeqAt.canLay_of_shaped (fit_shaped fy)) (SeqAt.room_of_shaped (fit_shaped fx) hu)
theorem str_eq_dict (b : Str) (u : Tok) (l : Addr) (es : Array DictEntry) (n : Nat) (dd : Option Addr) (sl : Array (Option Value)) :
    Meets (Builtin.«str.__eq__» ⟨[.str b u, .ref l], []⟩) (fun _ R s => s.heap.get? l = some { cls := .type "dict", dict := dd, data := .dict es n, slots := sl } ∧ R (.ok (.ret .notImplemented)) s) :=
  .of_wp fun prog w A R s h => by
    obtain ⟨hp, g, d, tk, os⟩ := s
    obtain ⟨hl, h⟩ := h
    wp_walk using wpAny_load hl, wpAny_loadPart' hl
    exact ⟨_, rfl, h⟩
theorem dict_eq_str (b : Str) (u : Tok) (l : Addr) (es : Array DictEntry) (n : Nat) (dd : Option Addr) (sl : Array (Option Value)) :
    Meets (Builtin.«dict.__eq__» ⟨[.ref l, .str b u], []⟩) (fun _ R s => s.heap.get? l = some { cls := .type "dict", dict := dd, data := .dict es n, slots := sl } ∧ R (.ok (.ret .notImplemented)) s) :=
  .of_wp fun prog w A R s h => by
    obtain ⟨hp, g, d, tk, os⟩ := s
    obtain ⟨hl, h⟩ := h
    have f1 := F.sub_str_dict
    wp_walk using wpAny_load hl, wpAny_loadPart' hl
    exact ⟨_, rfl, h⟩
theorem eqAt_str_dict {A : Around} {l : Addr} {es : Array DictEntry} {n : Nat} {o : Obj} (b : Str) (u : Tok) (ho : s.heap.get? l = some o) (hc : o.cls = .type "dict") (hd : o.data = .dict es n) (hu : A.units < cLine) : SeqAt.EqAt A s (.str b u) (.ref l) false := fun prog w E Q h => by
  obtain ⟨cls, dd, data, sl⟩ := o
  simp only at hc hd
  subst hc hd
  unfold eqBool
  refine wpAny_holding (wpAny_ite_split (fun hab => absurd (eq_of_beq hab) nofun) (fun _ => wpAny_bind ?_))
  exact SeqAt.rc_eq_decline_or (k := false) (typeIs_str s b u) ⟨_, ho, rfl⟩ (by decide) F.sub_dict_str F.slot_str_eq F.slot_dict_eq_refl
    (fun _ hq => call_meets F.slot_str_eq (typeIs_str s b u) F.entry_str_eq (F.args_str_eq_2 _ _) (str_eq_dict b u l es n dd sl) ⟨ho, hq⟩)
    (fun _ hq => call_meets F.slot_dict_eq_refl ⟨_, ho, rfl⟩ F.entry_dict_eq (F.args_dict_eq_2 _ _) (dict_eq_str b u l es n dd sl) ⟨ho, hq⟩)
    (fun _ hq => wpAny_of_eq (rfl : isSame (.str b u) (.ref l) = pure false) hq) (.inr hu) (wpAny_truthy_bool h)
theorem eqAt_dict_str {A : Around} {l : Addr} {es : Array DictEntry} {n : Nat} {o : Obj} (b : Str) (u : Tok) (ho : s.heap.get? l = some o) (hc : o.cls = .type "dict") (hd : o.data = .dict es n) (hu : A.units < cLine) : SeqAt.EqAt A s (.ref l) (.str b u) false := fun prog w E Q h => by
  obtain ⟨cls, dd, data, sl⟩ := o
  simp only at hc hd
  subst hc hd
  unfold eqBool
  refine wpAny_holding (wpAny_ite_split (fun hab => absurd (eq_of_beq hab) nofun) (fun _ => wpAny_bind ?_))
  exact SeqAt.rc_eq_decline_or (k := false) ⟨_, ho, rfl⟩ (typeIs_str s b u) (by decide) F.sub_str_dict F.slot_dict_eq F.slot_str_eq_refl
    (fun _ hq => call_meets F.slot_dict_eq ⟨_, ho, rfl⟩ F.entry_dict_eq (F.args_dict_eq_2 _ _) (dict_eq_str b u l es n dd sl) ⟨ho, hq⟩)
    (fun _ hq => call_meets F.slot_str_eq_refl (typeIs_str s b u) F.entry_str_eq (F.args_str_eq_2 _ _) (str_eq_dict b u l es n dd sl) ⟨ho, hq⟩)
    (fun _ hq => wpAny_of_eq (rfl : isSame (.ref l) (.str b u) = pure false) hq) (.inr hu) (wpAny_truthy_bool h)
end

def eqOk (y x : D) : Bool := (y.fit && x.fit) || (match y, x with | .str _, .tup _ => true | .str _, .lst _ => true | .str _, .dct _ => true | .tup _, .str _ => true | .lst _, .str _ => true | .dct _, .str _ => true | _, _ => false)
section
variable {X : Cx} {pins : List (Addr × Obj)} {σ : L2.St} {H B : Hp} {s : Shared}
theorem eqAt_d (I : Inv X pins σ H s) (ex : Ex B H) {A : Around} {x y : V} {u v : Value} {dx dy : D} (hx : Dp X.md B x dx) (hy : Dp X.md B y dy) (rx : RelV x u) (ry : RelV y v) (ok : eqOk dx dy = true)
    (hu : A.units + 64 < cLine) : SeqAt.EqAt A s u v (dx.eqv dy) := by
  unfold eqOk at ok
  rcases Bool.or_eq_true_iff.mp ok with h | h
  · exact eqAt_fit I ex hx hy rx ry (Bool.and_eq_true_iff.mp h).1 (Bool.and_eq_true_iff.mp h).2 hu
  · have hu' : A.units < cLine := by omega
    split at h
    · cases hx
      obtain ⟨t, rfl⟩ := rx
      cases hy with
      | tup sy _ =>
        cases ry
        obtain ⟨its, rv, ⟨o, ho, hc, n, hd⟩, _⟩ := I.tuple (ex.st sy.st)
        exact SeqAt.EqAt.str_tuple _ t ⟨o, ho, hc, n, hd⟩ hu'
    · cases hx
      obtain ⟨t, rfl⟩ := rx
      cases hy with
      | lst sy _ =>
        cases ry
        obtain ⟨its, rv, ⟨o, n, ho, hc, _, hd⟩, _⟩ := I.list (SqL.of (ex _ _ sy))
        exact SeqAt.EqAt.str_list _ t ⟨o, ho, hc, n, hd⟩ hu'
    · cases hx
      obtain ⟨t, rfl⟩ := rx
      cases hy with
      | dct sy _ =>
        cases ry
        obtain ⟨_, _, vs, _, o, es, ep, ho, ⟨hc, _⟩, hd, _⟩ := I.hok _ _ (ex _ _ sy)
        exact eqAt_str_dict _ t ho hc hd hu'
    · cases hy
      obtain ⟨t, rfl⟩ := ry
      cases hx with
      | tup sx _ =>
        cases rx
        obtain ⟨its, rv, ⟨o, ho, hc, n, hd⟩, _⟩ := I.tuple (ex.st sx.st)
        exact SeqAt.EqAt.tuple_str _ t ⟨o, ho, hc, n, hd⟩ hu'
    · cases hy
      obtain ⟨t, rfl⟩ := ry
      cases hx with
      | lst sx _ =>
        cases rx
        obtain ⟨its, rv, ⟨o, n, ho, hc, _, hd⟩, _⟩ := I.list (SqL.of (ex _ _ sx))
        exact SeqAt.EqAt.list_str _ t ⟨o, ho, hc, n, hd⟩ hu'
    · cases hy
      obtain ⟨t, rfl⟩ := ry
      cases hx with
      | dct sx _ =>
        cases rx
        obtain ⟨_, _, vs, _, o, es, ep, ho, ⟨hc, _⟩, hd, _⟩ := I.hok _ _ (ex _ _ sx)
        exact eqAt_dict_str _ t ho hc hd hu'
    · cases h
end

section
variable {X : Cx} {W : WX} {a b c e : Expr} {es : List Expr} {ta tb tc t : DT} {pos : Pos}
/-- by the data: what the operands say in B is what is asked; for rules that lean on the state itself -/
def rOf (M : Md) (f : F2) : R2 := fun x y H Q => ∃ (R : Res) (Fz B : Hp) (dx dy : D) (Qd : D → Prop), Wd R B Fz H ∧ Dp M B x dx ∧ Dp M B y dy ∧ f dx dy Qd ∧ VP M R B Fz Qd Q
theorem rOf_ok {M : Md} {f : F2} : OpD M (rOf M f) f := fun R Fz B H x y dx dy Qd Q w hx hy h k => ⟨R, Fz, B, dx, dy, Qd, w, hx, hy, h, k⟩

def fEqB (neg : Bool) : F2
  | .tup x, .tup [], Q => Q (.bl (x.isEmpty != neg))
  | .lst x, .lst [], Q => Q (.bl (x.isEmpty != neg))
  | x, y, Q => x.fit = true ∧ y.fit = true ∧ Q (.bl (x.eqv y != neg))
theorem rel_bl {b : Bool} : RelV (.bl b) (.bool b) := rfl
theorem opEq (hu : X.A.units + 64 < cLine) : OpR X (compareOp .Eq) (rOf X.md (fEqB false)) := by
  intro pins s σ H x y v u Q I rx ry ⟨R, Fz, B, dx, dy, Qd, w, hx, hy, h, k⟩
  unfold fEqB at h
  split at h
  · rename_i ds
    cases hx with
    | @tup a xs _ sx hx =>
    cases hy with
    | @tup b ys _ sy hy =>
    cases hy
    cases rx
    cases ry
    obtain ⟨its, rv, ⟨o, ho, hc, n, hd⟩, _⟩ := I.tuple (w.ex.st sx.st)
    obtain ⟨its2, rv2, ⟨o2, ho2, hc2, n2, hd2⟩, _⟩ := I.tuple (w.ex.st sy.st)
    cases rv2
    refine SeqAt.eq_tupleAt (e := fun _ => true) ⟨o, ho, hc, n, hd⟩ ⟨o2, ho2, hc2, n2, hd2⟩ (by omega) (fun j _ h2 => absurd h2 (by simp)) ⟨_, H, I, rel_bl, k _ H B _ (Ex.refl B) w (.bl _) ?_⟩
    have l1 : its.length = ds.length := rv.length.symm.trans hx.length
    have e : (((List.range (min its.toArray.size ([] : List Value).toArray.size)).all fun _ => true) && its.toArray.size == ([] : List Value).toArray.size) = (ds.isEmpty != false) := by
      cases ds with
      | nil => cases its with
        | nil => rfl
        | cons _ _ => simp at l1
      | cons _ _ => cases its with
        | nil => simp at l1
        | cons _ _ => simp
    rw [e]; exact h
  · rename_i ds
    cases hx with
    | @lst a xs _ sx hx =>
    cases hy with
    | @lst b ys _ sy hy =>
    cases hy
    cases rx
    cases ry
    obtain ⟨its, rv, ⟨o, n, ho, hc, _, hd⟩, _⟩ := I.list (SqL.of (w.ex _ _ sx))
    obtain ⟨its2, rv2, ⟨o2, n2, ho2, hc2, _, hd2⟩, _⟩ := I.list (SqL.of (w.ex _ _ sy))
    cases rv2
    have l1 : its.length = ds.length := rv.length.symm.trans hx.length
    cases ds with
    | nil =>
      cases its with
      | cons _ _ => simp at l1
      | nil => exact SeqAt.eq_listAt (e := fun _ => true) ⟨o, ho, hc, n, hd⟩ ⟨o2, ho2, hc2, n2, hd2⟩ rfl (by omega) (fun j _ h2 => absurd h2 (by simp)) ⟨_, H, I, rel_bl, k _ H B _ (Ex.refl B) w (.bl _) h⟩
    | cons d ds =>
      exact SeqAt.eq_list_lengthsAt ⟨o, ho, hc, n, hd⟩ ⟨o2, ho2, hc2, n2, hd2⟩ (by simp; intro q; subst q; simp at l1) (by omega) ⟨_, H, I, rel_bl, k _ H B _ (Ex.refl B) w (.bl _) h⟩
  · obtain ⟨fx, fy, h⟩ := h
    obtain ⟨as, r1⟩ := L2.Dp.reads I _ x v (dp2_mono w.ex (hx.py (fit_pure fx))) rx
    obtain ⟨bs, r2⟩ := L2.Dp.reads I _ y u (dp2_mono w.ex (hy.py (fit_pure fy))) ry
    refine SeqAt.compareEq_shaped r1 r2 (fit_shaped fx) (fit_shaped fy) hu ⟨.bl _, H, I, rel_bl, k _ H B _ (Ex.refl B) w (.bl _) ?_⟩
    rw [Bool.bne_false] at h
    exact h
theorem opNe (hu : X.A.units + 64 < cLine) : OpR X (compareOp .NotEq) (rOf X.md (fEqB true)) := by
  intro pins s σ H x y v u Q I rx ry ⟨R, Fz, B, dx, dy, Qd, w, hx, hy, h, k⟩
  unfold fEqB at h
  split at h
  · rename_i ds
    cases hx with
    | @tup a xs _ sx hx =>
    cases hy with
    | @tup b ys _ sy hy =>
    cases hy
    cases rx
    cases ry
    obtain ⟨its, rv, ⟨o, ho, hc, n, hd⟩, _⟩ := I.tuple (w.ex.st sx.st)
    obtain ⟨its2, rv2, ⟨o2, ho2, hc2, n2, hd2⟩, _⟩ := I.tuple (w.ex.st sy.st)
    cases rv2
    refine SeqAt.RcNeAt.tuples (e := fun _ => true) ⟨o, ho, hc, n, hd⟩ ⟨o2, ho2, hc2, n2, hd2⟩ (by omega) (fun j _ h2 => absurd h2 (by simp)) _ _ _ _ ⟨_, H, I, rel_bl, k _ H B _ (Ex.refl B) w (.bl _) ?_⟩
    have l1 : its.length = ds.length := rv.length.symm.trans hx.length
    have e : (!(((List.range (min its.toArray.size ([] : List Value).toArray.size)).all fun _ => true) && its.toArray.size == ([] : List Value).toArray.size)) = (ds.isEmpty != true) := by
      cases ds with
      | nil => cases its with
        | nil => rfl
        | cons _ _ => simp at l1
      | cons _ _ => cases its with
        | nil => simp at l1
        | cons _ _ => simp
    rw [e]; exact h
  · rename_i ds
    cases hx with
    | @lst a xs _ sx hx =>
    cases hy with
    | @lst b ys _ sy hy =>
    cases hy
    cases rx
    cases ry
    obtain ⟨its, rv, ⟨o, n, ho, hc, _, hd⟩, _⟩ := I.list (SqL.of (w.ex _ _ sx))
    obtain ⟨its2, rv2, ⟨o2, n2, ho2, hc2, _, hd2⟩, _⟩ := I.list (SqL.of (w.ex _ _ sy))
    cases rv2
    have l1 : its.length = ds.length := rv.length.symm.trans hx.length
    cases ds with
    | nil =>
      cases its with
      | cons _ _ => simp at l1
      | nil => exact SeqAt.RcNeAt.lists (e := fun _ => true) ⟨o, ho, hc, n, hd⟩ ⟨o2, ho2, hc2, n2, hd2⟩ rfl (by omega) (fun j _ h2 => absurd h2 (by simp)) _ _ _ _ ⟨_, H, I, rel_bl, k _ H B _ (Ex.refl B) w (.bl _) h⟩
    | cons d ds =>
      exact SeqAt.RcNeAt.lists_lengths ⟨o, ho, hc, n, hd⟩ ⟨o2, ho2, hc2, n2, hd2⟩ (by simp; intro q; subst q; simp at l1) (by omega) _ _ _ _ ⟨_, H, I, rel_bl, k _ H B _ (Ex.refl B) w (.bl _) h⟩
  · obtain ⟨fx, fy, h⟩ := h
    obtain ⟨as, r1⟩ := L2.Dp.reads I _ x v (dp2_mono w.ex (hx.py (fit_pure fx))) rx
    obtain ⟨bs, r2⟩ := L2.Dp.reads I _ y u (dp2_mono w.ex (hy.py (fit_pure fy))) ry
    refine SeqAt.compareNe_shaped r1 r2 (fit_shaped fx) (fit_shaped fy) hu ⟨.bl _, H, I, rel_bl, k _ H B _ (Ex.refl B) w (.bl _) ?_⟩
    rw [Bool.bne_true] at h
    exact h
abbrev fEq : F2 := fEqB false
abbrev fNe : F2 := fEqB true

/-! ### in, not in -/
def fInB (neg : Bool) : F2
  | .str x, .str z, Q => ∃ c, x = ⟨#[c]⟩ ∧ Q (.bl (decide (c ∈ z.cps.toList) != neg))
  | x, .tup ys, Q => (∀ y ∈ ys, eqOk y x = true) ∧ Q (.bl ((ys.any fun y => y.eqv x) != neg))
  | x, .lst ys, Q => (∀ y ∈ ys, eqOk y x = true) ∧ Q (.bl ((ys.any fun y => y.eqv x) != neg))
  | _, _, _ => False
abbrev fIn : F2 := fInB false
abbrev fNin : F2 := fInB true
theorem any_vals {M : Md} {B : Hp} {g : D → Bool} {e : Value → Bool} : ∀ {vs : List V} {ds : List D} {us : List Value}, Dps M B vs ds → Vals vs us → (∀ v d u, Dp M B v d → RelV v u → d ∈ ds → u ∈ us → e u = g d) → us.any e = ds.any g
  | _, _, _, .nil, .nil, _ => rfl
  | _, _, _, .cons h t, .cons r rs, f => by
    rw [List.any_cons, List.any_cons, f _ _ _ h r (List.mem_cons_self ..) (List.mem_cons_self ..), any_vals t rs fun v d u h r md mu => f v d u h r (List.mem_cons_of_mem _ md) (List.mem_cons_of_mem _ mu)]
end
end DL

set_option Elab.async false
set_option linter.all false
set_option maxRecDepth 100000
set_option maxHeartbeats 400000
namespace DL
open PySem L2

theorem eqOk_pure {y x : D} (h : eqOk y x = true) : y.pure = true ∨ ∃ b, x = .str b := by
  unfold eqOk at h
  rcases Bool.or_eq_true_iff.mp h with h | h
  · exact .inl (fit_pure (Bool.and_eq_true_iff.mp h).1)
  · split at h <;> first | exact .inl rfl | exact .inr ⟨_, rfl⟩ | cases h
/-- what a value reads as -/
noncomputable def rdOf (h : Heap) (u : Value) : PyData := open Classical in if q : ∃ d as, Reads h u d as then q.choose else .none
theorem rdOf_eq {h : Heap} {u : Value} {d : PyData} {as : List Addr} (r : Reads h u d as) : rdOf h u = d := by
  have q : ∃ d as, Reads h u d as := ⟨d, as, r⟩
  unfold rdOf
  rw [dif_pos q]
  obtain ⟨as', r'⟩ := q.choose_spec
  exact (Reads.unique r' d as r).1
section
variable {X : Cx} {pins : List (Addr × Obj)} {σ : L2.St} {H B : Hp} {s : Shared}
theorem rdOf_d (I : Inv X pins σ H s) (ex : Ex B H) {v : V} {u : Value} {d : D} (h : Dp X.md B v d) (r : RelV v u) (p : d.pure = true) : rdOf s.heap u = d.py := by
  obtain ⟨as, q⟩ := L2.Dp.reads I d.py v u (dp2_mono ex (h.py p)) r
  exact rdOf_eq q
theorem vals_mem {M : Md} {B : Hp} : ∀ {vs : List V} {ds : List D} {us : List Value}, Dps M B vs ds → Vals vs us → ∀ u ∈ us, ∃ v d, Dp M B v d ∧ RelV v u ∧ d ∈ ds
  | _, _, _, .nil, .nil, _, m => nomatch m
  | _, _, _, .cons h t, .cons r rs, u, m => by
    rcases List.mem_cons.mp m with e | m
    · subst e; exact ⟨_, _, h, r, List.mem_cons_self ..⟩
    · obtain ⟨v, d, h1, h2, h3⟩ := vals_mem t rs u m
      exact ⟨v, d, h1, h2, List.mem_cons_of_mem _ h3⟩
end
/-- is the value this text -/
def strZ (b : Str) : Value → Bool
  | .str y _ => y == b
  | _ => false
theorem strZ_d {M : Md} {B : Hp} {v : V} {u : Value} {d : D} {b : Str} (h : Dp M B v d) (r : RelV v u) (ok : eqOk d (.str b) = true) : d.eqv (.str b) = strZ b u := by
  cases h with
  | non => cases (show u = Value.none from r); simp [D.eqv, D.py, PyData.eqv, strZ]
  | bl b => cases (show u = Value.bool b from r); simp [D.eqv, D.py, PyData.eqv, strZ]
  | int i => obtain ⟨t, rfl⟩ := (show ∃ t, u = Value.int i t from r); simp [D.eqv, D.py, PyData.eqv, strZ]
  | str x => obtain ⟨t, rfl⟩ := (show ∃ t, u = Value.str x t from r); simp [D.eqv, D.py, PyData.eqv, strZ]
  | tup s h => cases r; simp [D.eqv, D.py, PyData.eqv, strZ]
  | lst s h => cases r; simp [D.eqv, D.py, PyData.eqv, strZ]
  | dct s h => cases r; simp [D.eqv, D.py, PyData.eqv, strZ]
  | ty | ref | frl | tpw | obj | exc | cls | dtt | xcg | clo => cases ok
section
variable {X : Cx} {pins : List (Addr × Obj)} {σ : L2.St} {H B : Hp} {s : Shared}
theorem in_e (I : Inv X pins σ H s) (ex : Ex B H) {A : Around} {x : V} {dx : D} {v : Value} {ys : List V} {ds : List D} {its : List Value} (hx : Dp X.md B x dx) (rx : RelV x v) (hy : Dps X.md B ys ds) (rv : Vals ys its) (ok : ∀ y ∈ ds, eqOk y dx = true) (hu : A.units + 64 < cLine) :
    ∃ e : Value → Bool, (∀ z, z ∈ its.toArray → SeqAt.EqAt A s z v (e z)) ∧ (its.toArray.any e) = ds.any fun y => y.eqv dx := by
  by_cases hs : ∃ b, dx = .str b
  · obtain ⟨b, rfl⟩ := hs
    refine ⟨strZ b, fun z hz => ?_, ?_⟩
    · obtain ⟨v', d', h1, h2, h3⟩ := vals_mem hy rv z (by simpa using hz)
      rw [← strZ_d h1 h2 (ok d' h3)]
      exact eqAt_d I ex h1 hx h2 rx (ok d' h3) hu
    · rw [List.any_toArray]
      exact any_vals hy rv fun v' d' u' h1 h2 h3 _ => (strZ_d h1 h2 (ok d' h3)).symm
  · have pu : ∀ y ∈ ds, y.pure = true := fun y hy => (eqOk_pure (ok y hy)).resolve_right hs
    refine ⟨fun z => PyData.eqv (rdOf s.heap z) dx.py, fun z hz => ?_, ?_⟩
    · obtain ⟨v', d', h1, h2, h3⟩ := vals_mem hy rv z (by simpa using hz)
      dsimp only
      rw [rdOf_d I ex h1 h2 (pu d' h3)]
      exact eqAt_d I ex h1 hx h2 rx (ok d' h3) hu
    · rw [List.any_toArray]
      exact any_vals hy rv fun v' d' u' h1 h2 h3 _ => by rw [rdOf_d I ex h1 h2 (pu d' h3)]; rfl
end
section
variable {X : Cx} {W : WX} {a b c e : Expr} {es : List Expr} {ta tb tc t : DT} {pos : Pos}
theorem opInB (neg : Bool) (hu : X.A.units + 100 < cLine) : OpR X (compareOp (if neg then .NotIn else .In)) (rOf X.md (fInB neg)) := by
  intro pins s σ H x y v u Q I rx ry ⟨R, Fz, B, dx, dy, Qd, w, hx, hy, h, k⟩
  have hu1 : (X.A.in1).units + 64 < cLine := by show X.A.units + 1 + 64 < cLine; omega
  unfold fInB at h
  split at h
  · obtain ⟨c, rfl, h⟩ := h
    cases hx; cases hy
    cases neg with
    | false => exact op_in_sign pins s σ H _ _ v u Q I rx ry ⟨c, _, rfl, rfl, k _ H B _ (Ex.refl B) w (.bl _) (by rw [Bool.bne_false] at h; exact h)⟩
    | true => exact op_notIn_sign pins s σ H _ _ v u Q I rx ry ⟨c, _, rfl, rfl, k _ H B _ (Ex.refl B) w (.bl _) (by rw [Bool.bne_true] at h; exact h)⟩
  · rename_i ds
    obtain ⟨ok, h⟩ := h
    cases hy with
    | @tup a xs _ sy hy =>
    cases ry
    obtain ⟨its, rv, ⟨o, ho, hc, n, hd⟩, _⟩ := I.tuple (w.ex.st sy.st)
    obtain ⟨ef, he, e⟩ := in_e I w.ex hx rx hy rv ok hu1
    cases neg with
    | false => exact SeqAt.in_tupleAt _ ⟨o, ho, hc, n, hd⟩ he ⟨_, H, I, rel_bl, k _ H B _ (Ex.refl B) w (.bl _) (by rw [e]; rw [Bool.bne_false] at h; exact h)⟩
    | true => exact SeqAt.notIn_tupleAt _ ⟨o, ho, hc, n, hd⟩ he ⟨_, H, I, rel_bl, k _ H B _ (Ex.refl B) w (.bl _) (by rw [e]; rw [Bool.bne_true] at h; exact h)⟩
  · rename_i ds
    obtain ⟨ok, h⟩ := h
    cases hy with
    | @lst a xs _ sy hy =>
    cases ry
    obtain ⟨its, rv, ⟨o, n, ho, hc, _, hd⟩, _⟩ := I.list (SqL.of (w.ex _ _ sy))
    obtain ⟨ef, he, e⟩ := in_e I w.ex hx rx hy rv ok hu1
    cases neg with
    | false => exact SeqAt.in_listAt _ ⟨o, ho, hc, n, hd⟩ he ⟨_, H, I, rel_bl, k _ H B _ (Ex.refl B) w (.bl _) (by rw [e]; rw [Bool.bne_false] at h; exact h)⟩
    | true => exact SeqAt.notIn_listAt _ ⟨o, ho, hc, n, hd⟩ he ⟨_, H, I, rel_bl, k _ H B _ (Ex.refl B) w (.bl _) (by rw [e]; rw [Bool.bne_true] at h; exact h)⟩
  · exact h.elim
theorem de_eq (hu : X.A.units + 100 < cLine) (ha : DE X W a ta) (hb : DE X W b tb) : DE X W (.Compare a [.Eq] [b] pos) (dBin fEq ta tb) := de_cmp (opEq (by omega)) rOf_ok ha hb (nomark _)
theorem de_ne (hu : X.A.units + 100 < cLine) (ha : DE X W a ta) (hb : DE X W b tb) : DE X W (.Compare a [.NotEq] [b] pos) (dBin fNe ta tb) := de_cmp (opNe (by omega)) rOf_ok ha hb (nomark _)
theorem de_in (hu : X.A.units + 100 < cLine) (ha : DE X W a ta) (hb : DE X W b tb) (hm : behindInMarks .In b = false := by rfl) : DE X W (.Compare a [.In] [b] pos) (dBin fIn ta tb) := de_cmp (opInB false hu) rOf_ok ha hb hm
theorem de_nin (hu : X.A.units + 100 < cLine) (ha : DE X W a ta) (hb : DE X W b tb) (hm : behindInMarks .NotIn b = false := by rfl) : DE X W (.Compare a [.NotIn] [b] pos) (dBin fNin ta tb) := de_cmp (opInB true hu) rOf_ok ha hb hm
theorem dt_eq (hu : X.A.units + 100 < cLine) (ha : DE X W a ta) (hb : DE X W b tb) : DTt X W (.Compare a [.Eq] [b] pos) (dTest (dBin fEq ta tb)) := dt_cmp (opEq (by omega)) rOf_ok ha hb (nomark _)
theorem dt_ne (hu : X.A.units + 100 < cLine) (ha : DE X W a ta) (hb : DE X W b tb) : DTt X W (.Compare a [.NotEq] [b] pos) (dTest (dBin fNe ta tb)) := dt_cmp (opNe (by omega)) rOf_ok ha hb (nomark _)
theorem dt_in (hu : X.A.units + 100 < cLine) (ha : DE X W a ta) (hb : DE X W b tb) (hm : behindInMarks .In b = false := by rfl) : DTt X W (.Compare a [.In] [b] pos) (dTest (dBin fIn ta tb)) := dt_cmp (opInB false hu) rOf_ok ha hb hm
theorem dt_nin (hu : X.A.units + 100 < cLine) (ha : DE X W a ta) (hb : DE X W b tb) (hm : behindInMarks .NotIn b = false := by rfl) : DTt X W (.Compare a [.NotIn] [b] pos) (dTest (dBin fNin ta tb)) := dt_cmp (opInB true hu) rOf_ok ha hb hm
end
end DL

set_option Elab.async false
set_option linter.all false
set_option maxRecDepth 100000
set_option maxHeartbeats 400000
namespace DL
open PySem L2
section
variable {X : Cx} {W : WX} {a b c e : Expr} {es rest : List Expr} {ta tb tc t : DT} {tA tB' : DB} {tr : DA} {pos : Pos}

/-! ### tests -/
theorem dt_val (h : DE X W e t) (he : ∀ whole, isTrue e X.env whole = (do let v ← whole; standAt e.pos; holding [v] (truthy v)) := by intro _; rfl) : DTt X W e (dTest t) :=
  (pt_val h he).imp fun σ H Q ⟨R, Fz, B, ρ, Qd, E, w, sl, q, k, x⟩ =>
    ⟨R, Fz, B, ρ, _, E, w, sl, q, fun R v H1 B1 d e1 w1 h1 ⟨b, hb, q1⟩ => by subst hb; exact ⟨b, h1.ofBl, k R b H1 B1 e1 w1 q1⟩, x⟩
def dNot (t : DB) : DB := fun R ρ Q E => t R ρ (fun R b => Q R (!b)) E
def dAnd (t u : DB) : DB := fun R ρ Q E => t R ρ (fun R b => if b = true then u R ρ Q E else Q R false) E
def dOr (t u : DB) : DB := fun R ρ Q E => t R ρ (fun R b => if b = true then Q R true else u R ρ Q E) E
theorem dt_not (ha : DTt X W a tA) : DTt X W (.UnaryOp .Not a pos) (dNot tA) :=
  (pt_not ha).imp fun σ H Q ⟨R, Fz, B, ρ, Qd, E, w, sl, q, k, x⟩ => ⟨R, Fz, B, ρ, _, E, w, sl, q, fun R b H1 B1 e1 w1 q1 => k R (!b) H1 B1 e1 w1 q1, x⟩
abbrev DW (X : Cx) (W : WX) (e : Expr) (t : DB) : Prop := PW X e (liftB X.md W t)
theorem _root_.L2.PW.imp {X : Cx} {e : Expr} {t t' : TT} (h : PW X e t) (f : ∀ σ H Q, t' σ H Q → t σ H Q) : PW X e t' := ⟨fun wh pins s σ H Q I q => h.run wh pins s σ H Q I (f σ H Q q)⟩
theorem dw_and1 (ha : DTt X W a tA) : DW X W (.BoolOp .And [a] pos) tA := pw_and1 ha
theorem dw_or1 (ha : DTt X W a tA) : DW X W (.BoolOp .Or [a] pos) tA := pw_or1 ha
theorem dw_and (ha : DTt X W a tA) (hb : DW X W (.BoolOp .And (b :: rest) pos) tB') : DW X W (.BoolOp .And (a :: b :: rest) pos) (dAnd tA tB') :=
  (pw_and ha hb).imp fun σ H Q ⟨R, Fz, B, ρ, Qd, E, w, sl, q, k, x⟩ => ⟨R, Fz, B, ρ, _, E, w, sl, q, fun R b H1 B1 e1 w1 q1 => by
    cases b with
    | true => exact ⟨R, Fz, B1, ρ, _, E, w1, sl.mono e1, q1, fun R b H2 B2 e2 w2 q2 => k R b H2 B2 (e1.trans e2) w2 q2, x.mono e1⟩
    | false => exact k R false H1 B1 e1 w1 q1, x⟩
theorem dw_or (ha : DTt X W a tA) (hb : DW X W (.BoolOp .Or (b :: rest) pos) tB') : DW X W (.BoolOp .Or (a :: b :: rest) pos) (dOr tA tB') :=
  (pw_or ha hb).imp fun σ H Q ⟨R, Fz, B, ρ, Qd, E, w, sl, q, k, x⟩ => ⟨R, Fz, B, ρ, _, E, w, sl, q, fun R b H1 B1 e1 w1 q1 => by
    cases b with
    | false => exact ⟨R, Fz, B1, ρ, _, E, w1, sl.mono e1, q1, fun R b H2 B2 e2 w2 q2 => k R b H2 B2 (e1.trans e2) w2 q2, x.mono e1⟩
    | true => exact k R true H1 B1 e1 w1 q1, x⟩
theorem dt_w (h : DW X W e tA) : DTt X W e tA := h.pt

/-! ### and, or, not as values of truth values -/
def dAndV (ta tb : DT) : DT := fun R ρ Q E => ta R ρ (fun R d => ∃ b, d = .bl b ∧ if b = true then tb R ρ Q E else Q R (.bl false)) E
def dOrV (ta tb : DT) : DT := fun R ρ Q E => ta R ρ (fun R d => ∃ b, d = .bl b ∧ if b = true then Q R (.bl true) else tb R ρ Q E) E
def dNotV (ta : DT) : DT := fun R ρ Q E => ta R ρ (fun R d => ∃ b, d = .bl b ∧ Q R (.bl (!b))) E
theorem de_one {op} (h : DE X W a t) : DE X W (.BoolOp op [a] pos) t := pe_one h
theorem de_and (ha : DE X W a ta) (hb : DE X W (.BoolOp .And (b :: rest) pos) tb) : DE X W (.BoolOp .And (a :: b :: rest) pos) (dAndV ta tb) :=
  (pe_and ha hb).imp fun σ H Q ⟨R, Fz, B, ρ, Qd, E, w, sl, q, k, x⟩ => ⟨R, Fz, B, ρ, _, E, w, sl, q, fun R v H1 B1 d e1 w1 h1 ⟨b, hb, q1⟩ => by
    subst hb
    refine ⟨b, h1.ofBl, ?_⟩
    cases b with
    | true => exact ⟨R, Fz, B1, ρ, _, E, w1, sl.mono e1, q1, k.mono e1, x.mono e1⟩
    | false => exact k R _ H1 B1 _ e1 w1 (.bl _) q1, x⟩
theorem de_or (ha : DE X W a ta) (hb : DE X W (.BoolOp .Or (b :: rest) pos) tb) : DE X W (.BoolOp .Or (a :: b :: rest) pos) (dOrV ta tb) :=
  (pe_or ha hb).imp fun σ H Q ⟨R, Fz, B, ρ, Qd, E, w, sl, q, k, x⟩ => ⟨R, Fz, B, ρ, _, E, w, sl, q, fun R v H1 B1 d e1 w1 h1 ⟨b, hb, q1⟩ => by
    subst hb
    refine ⟨b, h1.ofBl, ?_⟩
    cases b with
    | false => exact ⟨R, Fz, B1, ρ, _, E, w1, sl.mono e1, q1, k.mono e1, x.mono e1⟩
    | true => exact k R _ H1 B1 _ e1 w1 (.bl _) q1, x⟩
theorem de_not (ha : DE X W a ta) : DE X W (.UnaryOp .Not a pos) (dNotV ta) :=
  (pe_not ha).imp fun σ H Q ⟨R, Fz, B, ρ, Qd, E, w, sl, q, k, x⟩ => ⟨R, Fz, B, ρ, _, E, w, sl, q, fun R v H1 B1 d e1 w1 h1 ⟨b, hb, q1⟩ => by
    subst hb
    exact ⟨b, h1.ofBl, k R _ H1 B1 _ e1 w1 (.bl _) q1⟩, x⟩
def dIf (t : DB) (ta tb : DT) : DT := fun R ρ Q E => t R ρ (fun R b => if b = true then ta R ρ Q E else tb R ρ Q E) E
theorem de_if (hc : DTt X W c tA) (ha : DE X W a ta) (hb : DE X W b tb) : DE X W (.IfExp c a b pos) (dIf tA ta tb) :=
  (pe_ifExp hc ha hb).imp fun σ H Q ⟨R, Fz, B, ρ, Qd, E, w, sl, q, k, x⟩ => ⟨R, Fz, B, ρ, _, E, w, sl, q, fun R b H1 B1 e1 w1 q1 => by
    cases b with
    | true => exact ⟨R, Fz, B1, ρ, _, E, w1, sl.mono e1, q1, k.mono e1, x.mono e1⟩
    | false => exact ⟨R, Fz, B1, ρ, _, E, w1, sl.mono e1, q1, k.mono e1, x.mono e1⟩, x⟩

/-! ### order, chains -/
theorem opLt : OpR X (compareOp .Lt) (rOrd (fun i j => decide (i < j)) fun x y => decide (x < y)) := op_lt.or op_lt_str
theorem opLe : OpR X (compareOp .LtE) (rOrd (fun i j => decide (i ≤ j)) fun x y => !decide (y < x)) := op_le.or op_le_str
theorem opGt : OpR X (compareOp .Gt) (rOrd (fun i j => decide (j < i)) fun x y => decide (y < x)) := op_gt.or op_gt_str
theorem opGe : OpR X (compareOp .GtE) (rOrd (fun i j => decide (j ≤ i)) fun x y => !decide (x < y)) := op_ge.or op_ge_str
theorem de_lt (ha : DE X W a ta) (hb : DE X W b tb) : DE X W (.Compare a [.Lt] [b] pos) (dBin fLt ta tb) := de_cmp opLt fOrd_ok ha hb (nomark _)
theorem de_le (ha : DE X W a ta) (hb : DE X W b tb) : DE X W (.Compare a [.LtE] [b] pos) (dBin fLe ta tb) := de_cmp opLe fOrd_ok ha hb (nomark _)
theorem de_gt (ha : DE X W a ta) (hb : DE X W b tb) : DE X W (.Compare a [.Gt] [b] pos) (dBin fGt ta tb) := de_cmp opGt fOrd_ok ha hb (nomark _)
theorem de_ge (ha : DE X W a ta) (hb : DE X W b tb) : DE X W (.Compare a [.GtE] [b] pos) (dBin fGe ta tb) := de_cmp opGe fOrd_ok ha hb (nomark _)
theorem dt_lt (ha : DE X W a ta) (hb : DE X W b tb) : DTt X W (.Compare a [.Lt] [b] pos) (dTest (dBin fLt ta tb)) := dt_cmp opLt fOrd_ok ha hb (nomark _)
theorem dt_le (ha : DE X W a ta) (hb : DE X W b tb) : DTt X W (.Compare a [.LtE] [b] pos) (dTest (dBin fLe ta tb)) := dt_cmp opLe fOrd_ok ha hb (nomark _)
theorem dt_gt (ha : DE X W a ta) (hb : DE X W b tb) : DTt X W (.Compare a [.Gt] [b] pos) (dTest (dBin fGt ta tb)) := dt_cmp opGt fOrd_ok ha hb (nomark _)
theorem dt_ge (ha : DE X W a ta) (hb : DE X W b tb) : DTt X W (.Compare a [.GtE] [b] pos) (dTest (dBin fGe ta tb)) := dt_cmp opGe fOrd_ok ha hb (nomark _)
def dChain (f g : F2) (ta tb tc : DT) : DT := fun R ρ Q E => ta R ρ (fun R x => tb R ρ (fun R y => f x y fun z => ∃ k, z = .bl k ∧ if k = true then tc R ρ (fun R u => g y u (Q R)) E else Q R (.bl false)) E) E
theorem lift3 {M : Md} {r r' : R2} {f g : F2} (hf : OpD M r f) (hg : OpD M r' g) {σ : L2.St} {H : Hp} {Q : VK} (h : lift M W (dChain f g ta tb tc) σ H Q) : tChain r r' (lift M W ta) (lift M W tb) (lift M W tc) σ H Q := by
  obtain ⟨R, Fz, B, ρ, Qd, E, w, sl, q, k, x⟩ := h
  refine ⟨R, Fz, B, ρ, _, E, w, sl, q, fun R v H1 B1 d e1 w1 h1 q1 => ?_, x⟩
  refine ⟨R, Fz, B1, ρ, _, E, w1, sl.mono e1, q1, fun R u H2 B2 d2 e2 w2 h2 q2 => ?_, x.mono e1⟩
  refine hf R Fz B2 H2 v u d d2 _ _ w2 (h1.mono e2) h2 q2 fun z H3 B3 d3 e3 w3 h3 ⟨b, hb, q3⟩ => ?_
  subst hb
  refine ⟨b, h3.ofBl, ?_⟩
  cases b with
  | true =>
    refine ⟨R, Fz, B3, ρ, _, E, w3, (sl.mono e1).mono (e2.trans e3), q3, fun R y H4 B4 d4 e4 w4 h4 q4 => ?_, x.mono ((e1.trans e2).trans e3)⟩
    exact hg R Fz B4 H4 u y d2 d4 _ Q w4 (h2.mono (e3.trans e4)) h4 q4 ((k.mono (((e1.trans e2).trans e3).trans e4)).at R)
  | false => exact k R _ H3 B3 _ ((e1.trans e2).trans e3) w3 (.bl _) q3
theorem de_leLe (ha : DE X W a ta) (hb : DE X W b tb) (hc : DE X W c tc) (hm : lastMarks [.LtE, .LtE] [b, c] = false := by with_unfolding_all rfl) : DE X W (.Compare a [.LtE, .LtE] [b, c] pos) (dChain fLe fLe ta tb tc) := (pe_chain opLe opLe ha hb hc hm).imp fun _ _ _ h => lift3 fOrd_ok fOrd_ok h
theorem de_leLt (ha : DE X W a ta) (hb : DE X W b tb) (hc : DE X W c tc) (hm : lastMarks [.LtE, .Lt] [b, c] = false := by with_unfolding_all rfl) : DE X W (.Compare a [.LtE, .Lt] [b, c] pos) (dChain fLe fLt ta tb tc) := (pe_chain opLe opLt ha hb hc hm).imp fun _ _ _ h => lift3 fOrd_ok fOrd_ok h
theorem tchain {r r' : R2} {f g : F2} (hf : OpD X.md r f) (hg : OpD X.md r' g) (h : PT X e (tTest (tChain r r' (lift X.md W ta) (lift X.md W tb) (lift X.md W tc)))) : DTt X W e (dTest (dChain f g ta tb tc)) :=
  h.imp fun σ H Q ⟨R, Fz, B, ρ, Qd, E, w, sl, q, k, x⟩ => lift3 hf hg ⟨R, Fz, B, ρ, _, E, w, sl, q, fun R v H1 B1 d e1 w1 h1 ⟨b, hb, q1⟩ => by subst hb; exact ⟨b, h1.ofBl, k R b H1 B1 e1 w1 q1⟩, x⟩
theorem dt_leLe (ha : DE X W a ta) (hb : DE X W b tb) (hc : DE X W c tc) (hm : lastMarks [.LtE, .LtE] [b, c] = false := by with_unfolding_all rfl) : DTt X W (.Compare a [.LtE, .LtE] [b, c] pos) (dTest (dChain fLe fLe ta tb tc)) := tchain fOrd_ok fOrd_ok (pt_chain opLe opLe ha hb hc hm)
theorem dt_leLt (ha : DE X W a ta) (hb : DE X W b tb) (hc : DE X W c tc) (hm : lastMarks [.LtE, .Lt] [b, c] = false := by with_unfolding_all rfl) : DTt X W (.Compare a [.LtE, .Lt] [b, c] pos) (dTest (dChain fLe fLt ta tb tc)) := tchain fOrd_ok fOrd_ok (pt_chain opLe opLt ha hb hc hm)

/-! ### arguments, displays -/
def dNil : DA := fun R _ Q _ => Q R []
def dCons (ta : DT) (tr : DA) : DA := fun R ρ Q E => ta R ρ (fun R x => tr R ρ (fun R xs => Q R (x :: xs)) E) E
theorem da_nil : DAs X W [] dNil := pa_nil.imp fun σ H Q ⟨R, Fz, B, ρ, Qd, E, w, sl, q, k, x⟩ => k R [] H B [] (Ex.refl B) w .nil q
theorem da_cons (ha : DE X W e t) (hr : DAs X W es tr) (hs : starEach (e :: es) X.env = (false, eval e X.env) :: starEach es X.env := by rfl) : DAs X W (e :: es) (dCons t tr) :=
  (pa_cons ha hr hs).imp fun σ H Q ⟨R, Fz, B, ρ, Qd, E, w, sl, q, k, x⟩ => ⟨R, Fz, B, ρ, _, E, w, sl, q, fun R v H1 B1 d e1 w1 h1 q1 =>
    ⟨R, Fz, B1, ρ, _, E, w1, sl.mono e1, q1, fun R vs H2 B2 ds e2 w2 h2 q2 => k R _ H2 B2 _ (e1.trans e2) w2 (.cons (h1.mono e2) h2) q2, x.mono e1⟩, x⟩
def dTup (ta : DA) : DT := fun R ρ Q E => ta R ρ (fun R xs => xs.length ≤ sizeLine ∧ Q R (.tup xs)) E
def dLst (ta : DA) : DT := fun R ρ Q E => ta R ρ (fun R xs => xs.length ≤ sizeLine ∧ Q R (.lst xs)) E
theorem de_tup {k} (h : DAs X W es tr) : DE X W (.Tuple es k pos) (dTup tr) :=
  (pe_tupF h).imp fun σ H Q ⟨R, Fz, B, ρ, Qd, E, w, sl, q, k, x⟩ => ⟨R, Fz, B, ρ, _, E, w, sl, q, fun R vs H1 B1 ds e1 w1 h1 ⟨hz, q1⟩ =>
    ⟨by rw [h1.length]; exact hz, fun p o hp ho => k R _ _ _ _ (e1.trans (Ex.new (w1.free hp))) (w1.new hp) (.tup (.new ho) (h1.mono (Ex.new (w1.free hp)))) q1⟩, x⟩
theorem de_lst (h : DAs X W es tr) : DE X W (.List es pos) (dLst tr) :=
  (pe_lst h).imp fun σ H Q ⟨R, Fz, B, ρ, Qd, E, w, sl, q, k, x⟩ => ⟨R, Fz, B, ρ, _, E, w, sl, q, fun R vs H1 B1 ds e1 w1 h1 ⟨hz, q1⟩ =>
    ⟨by rw [h1.length]; exact hz, fun p hp => k R _ _ _ _ (e1.trans (Ex.new (w1.free hp))) (w1.new hp) (.lst upd_same (h1.mono (Ex.new (w1.free hp)))) q1⟩, x⟩

/-! ### calls of built-ins by values -/
abbrev FC := List D → (D → Prop) → Prop
def rcOf (M : Md) (f : FC) : List V → Hp → VK → Prop := fun xs H Q => ∃ (R : Res) (Fz B : Hp) (ds : List D) (Qd : D → Prop), Wd R B Fz H ∧ Dps M B xs ds ∧ f ds Qd ∧ VP M R B Fz Qd Q
/-- r is kept by f over the data -/
def CallD (M : Md) (r : List V → Hp → VK → Prop) (f : FC) : Prop := ∀ (R : Res) (Fz B H : Hp) (xs : List V) (ds : List D) (Qd : D → Prop) (Q : VK), Wd R B Fz H → Dps M B xs ds → f ds Qd → VP M R B Fz Qd Q → r xs H Q
theorem rcOf_ok {M : Md} {f : FC} : CallD M (rcOf M f) f := fun R Fz B H xs ds Qd Q w h hf k => ⟨R, Fz, B, ds, Qd, w, h, hf, k⟩
def dCB (f : FC) (ta : DA) : DT := fun R ρ Q E => ta R ρ (fun R ds => f ds (Q R)) E
theorem liftCB {M : Md} {r : List V → Hp → VK → Prop} {f : FC} (hf : CallD M r f) {σ : L2.St} {H : Hp} {Q : VK} (h : lift M W (dCB f tr) σ H Q) : tCB r (liftA M W tr) σ H Q := by
  obtain ⟨R, Fz, B, ρ, Qd, E, w, sl, q, k, x⟩ := h
  exact ⟨R, Fz, B, ρ, _, E, w, sl, q, fun R vs H1 B1 ds e1 w1 h1 q1 => hf R Fz B1 H1 vs ds _ Q w1 h1 q1 ((k.mono e1).at R), x⟩
theorem de_callB {x : Str} {id : String} {p : Pos} {r : List V → Hp → VK → Prop} {f : FC} (hc : CallR X (.builtin id) r) (hf : CallD X.md r f) (hg : Gl X x) (hm : X.mg x = none) (hv : bootBuiltins x = some (.builtin id)) (ha : DAs X W (e :: es) tr)
    (hn : x ≠ "__name__" := by decide) (hdb : (x == ("__debug__" : Str)) = false := by decide) (he : starEach (e :: es) X.env = (false, eval e X.env) :: starEach es X.env := by rfl) (hpl : (backTo pos (starEach es X.env)).any (·.1) = false := by rfl) :
    DE X W (.Call (.Name x p) (e :: es) [] pos) (dCB f tr) := (pe_callB hc hg hm hv ha hn hdb he hpl).imp fun _ _ _ h => liftCB hf h
theorem de_callT {x : Str} {T : String} {p : Pos} {r : List V → Hp → VK → Prop} {f : FC} (hc : CallR X (.type T) r) (hf : CallD X.md r f) (hg : Gl X x) (hm : X.mg x = none) (hv : bootBuiltins x = some (.type T)) (ha : DAs X W (e :: es) tr)
    (hn : x ≠ "__name__" := by decide) (hdb : (x == ("__debug__" : Str)) = false := by decide) (he : starEach (e :: es) X.env = (false, eval e X.env) :: starEach es X.env := by rfl) (hpl : (backTo pos (starEach es X.env)).any (·.1) = false := by rfl) :
    DE X W (.Call (.Name x p) (e :: es) [] pos) (dCB f tr) := (pe_callTy hc hg hm hv ha hn hdb he hpl).imp fun _ _ _ h => liftCB hf h

/-- len(x) -/
def lenD : D → Option Nat
  | .str x => some x.length | .tup ds => some ds.length | .lst ds => some ds.length | .frl ds => some ds.length | _ => none
def fLen : FC
  | [.str x], Q => x.length ≤ sizeLine ∧ Q (.int x.length)
  | [.tup ds], Q => Q (.int ds.length)
  | [.lst ds], Q => Q (.int ds.length)
  | [.frl ds], Q => Q (.int ds.length)
  | _, _ => False
abbrev rLenA (K : PySem.W.Frag) : List V → Hp → VK → Prop := fun xs H Q => ∃ x n, xs = [x] ∧ LenV K x H n ∧ Q (.int n) H
theorem fLen_ok {M : Md} : CallD M (rLenA M.K) fLen := by
  intro R Fz B H xs ds Qd Q w h hf k
  unfold fLen at hf
  split at hf
  · cases h with | cons h t => cases t; cases h; exact ⟨_, _, rfl, ⟨hf.1, rfl⟩, k _ H B _ (Ex.refl B) w (.int _) hf.2⟩
  · cases h with
    | cons h t => cases t; cases h with
      | tup s h => exact ⟨_, _, rfl, .inr ⟨_, w.ex.st s.st, rfl⟩, k _ H B _ (Ex.refl B) w (.int _) (by rw [h.length]; exact hf)⟩
  · cases h with
    | cons h t => cases t; cases h with
      | lst s h => exact ⟨_, _, rfl, .inl ⟨_, SqL.of (w.ex _ _ s), rfl⟩, k _ H B _ (Ex.refl B) w (.int _) (by rw [h.length]; exact hf)⟩
  · cases h with
    | cons h t => cases t; cases h with
      | frl s h => exact ⟨_, _, rfl, .inl ⟨_, w.ex.sl s, rfl⟩, k _ H B _ (Ex.refl B) w (.int _) (by rw [h.length]; exact hf)⟩
  · exact hf.elim
theorem de_len {p : Pos} (hg : Gl X "len") (hm : X.mg "len" = none) (ha : DAs X W [e] tr) (he : starEach [e] X.env = (false, eval e X.env) :: starEach [] X.env := by rfl) : DE X W (.Call (.Name "len" p) [e] [] pos) (dCB fLen tr) :=
  de_callB call_len fLen_ok hg hm PySem.boot_len ha (he := he)

/-- isinstance(x, T), T a built-in class -/
def tyD : D → Option String
  | .non => some "NoneType" | .bl _ => some "bool" | .int _ => some "int" | .str _ => some "str" | .tup _ => some "tuple" | .lst _ => some "list" | .dct _ => some "dict" | _ => none
def isiB (t T : String) : Bool := t == T || (t == "bool" && T == "int")
def fIsi : FC
  | [d, .ty T], Q => ∃ t, tyD d = some t ∧ L2.kitB t T = some (isiB t T) ∧ Q (.bl (isiB t T))
  | _, _ => False
theorem Dp.tyx {M : Md} {B H : Hp} (ex : Ex B H) {v : V} {d : D} {t : String} (h : Dp M B v d) (e : tyD d = some t) : TyX M.K H v (.type t) := by
  cases h with
  | non => cases e; exact .base .non
  | bl b => cases e; exact .base (.bl b)
  | int b => cases e; exact .base (.int b)
  | str b => cases e; exact .base (.str b)
  | tup s _ =>
    cases e
    rcases ex.st s.st with (s | ⟨o, s⟩) | ⟨o, its, n, s, c, _⟩
    · exact .base (.tup s)
    · exact .fTuple s
    · exact .kTuple s c
  | lst s _ => cases e; exact .base (.lst (ex _ _ s))
  | dct s _ => cases e; exact .base (.dK (ex _ _ s))
  | ty | ref | frl | tpw | obj | exc | cls | dtt | xcg | clo => cases e
theorem fIsi_ok {M : Md} : CallD M (rIsi M.K) fIsi := by
  intro R Fz B H xs ds Qd Q w h hf k
  unfold fIsi at hf
  split at hf
  · obtain ⟨t, e, kt, hf⟩ := hf
    cases h with
    | cons h t2 => cases t2 with
      | cons h2 t3 => cases t3; cases h2; exact ⟨_, _, _, _, _, rfl, .ty _, h.tyx w.ex e, kit_ty kt, k _ H B _ (Ex.refl B) w (.bl _) hf⟩
  · exact hf.elim
theorem de_isi {p : Pos} {e2 : Expr} (hg : Gl X "isinstance") (hm : X.mg "isinstance" = none) (ha : DAs X W [e, e2] tr) (he : starEach [e, e2] X.env = (false, eval e X.env) :: starEach [e2] X.env := by rfl) (hpl : (backTo pos (starEach [e2] X.env)).any (·.1) = false := by rfl) : DE X W (.Call (.Name "isinstance" p) [e, e2] [] pos) (dCB fIsi tr) :=
  de_callB call_isi fIsi_ok hg hm (by decide +kernel) ha (he := he) (hpl := hpl)
/-- a built-in class as a value -/
theorem de_ty {x : Str} {T : String} (hg : Gl X x) (hm : X.mg x = none) (hv : bootBuiltins x = some (.type T)) (hn : x ≠ "__name__" := by decide) (hd : (x == ("__debug__" : Str)) = false := by decide) : DE X W (.Name x pos) (dC (.ty T)) :=
  de_c (pe_bltn (v := .ty T) hg hm hv rfl hn hd) fun _ => .ty T

/-- all([..]) -/
def D.bls : List D → Option (List Bool)
  | [] => some []
  | .bl b :: r => (D.bls r).map (b :: ·)
  | _ :: _ => none
theorem bls_eq : ∀ {ds : List D} {bs : List Bool}, D.bls ds = some bs → ds = bs.map D.bl
  | [], bs, h => by cases h; rfl
  | d :: r, bs, h => by
    cases d with
    | bl b =>
      unfold D.bls at h
      cases q : D.bls r with
      | none => rw [q] at h; cases h
      | some cs => rw [q] at h; cases h; rw [bls_eq q]; rfl
    | _ => cases h
theorem bls_map (bs : List Bool) : D.bls (bs.map D.bl) = some bs := by
  induction bs with
  | nil => rfl
  | cons b r ih => show (D.bls (r.map D.bl)).map (b :: ·) = _; rw [ih]; rfl
def fAll : FC
  | [.lst ds], Q => ∃ bs, D.bls ds = some bs ∧ Q (.bl (bs.all id))
  | _, _ => False
theorem fAll_ok {M : Md} : CallD M (rAll M.K) fAll := by
  intro R Fz B H xs ds Qd Q w h hf k
  unfold fAll at hf
  split at hf
  · obtain ⟨bs, e, hf⟩ := hf
    cases h with
    | cons h t => cases t; cases h with
      | lst s h =>
        rw [bls_eq e] at h
        exact ⟨_, bs, rfl, by rw [h.ofBls] at s; exact SqL.of (w.ex _ _ s), k _ H B _ (Ex.refl B) w (.bl _) hf⟩
  · exact hf.elim
theorem de_all {p : Pos} (hc : X.calm = true) (hg : Gl X "all") (hm : X.mg "all" = none) (ha : DAs X W [e] tr) (he : starEach [e] X.env = (false, eval e X.env) :: starEach [] X.env := by rfl) : DE X W (.Call (.Name "all" p) [e] [] pos) (dCB fAll tr) :=
  de_callB (cr_all hc) fAll_ok hg hm (by decide +kernel) ha (he := he)
def fAny : FC
  | [.lst ds], Q => ∃ bs, D.bls ds = some bs ∧ Q (.bl (bs.any id))
  | _, _ => False
theorem fAny_ok {M : Md} : CallD M (rAny M.K) fAny := by
  intro R Fz B H xs ds Qd Q w h hf k
  unfold fAny at hf
  split at hf
  · obtain ⟨bs, e, hf⟩ := hf
    cases h with
    | cons h t => cases t; cases h with
      | lst s h =>
        rw [bls_eq e] at h
        exact ⟨_, bs, rfl, by rw [h.ofBls] at s; exact SqL.of (w.ex _ _ s), k _ H B _ (Ex.refl B) w (.bl _) hf⟩
  · exact hf.elim
theorem de_any {p : Pos} (hc : X.calm = true) (hg : Gl X "any") (hm : X.mg "any" = none) (ha : DAs X W [e] tr) (he : starEach [e] X.env = (false, eval e X.env) :: starEach [] X.env := by rfl) : DE X W (.Call (.Name "any" p) [e] [] pos) (dCB fAny tr) :=
  de_callB (cr_any hc) fAny_ok hg hm (by decide +kernel) ha (he := he)
/-- int(n), min(m, n) -/
def fInt : FC
  | [.int i], Q => Q (.int i)
  | [.bl b], Q => Q (.int (if b then 1 else 0))
  | _, _ => False
def fMin2 : FC
  | [.int i, .int j], Q => Q (.int (if j < i then j else i))
  | _, _ => False
/-- tuple(x), list(x) of a list or tuple -/
def fTuple : FC
  | [.lst ds], Q => Q (.tup ds)
  | [.tup ds], Q => Q (.tup ds)
  | _, _ => False
def fList : FC
  | [.lst ds], Q => Q (.lst ds)
  | [.tup ds], Q => Q (.lst ds)
  | [.frl ds], Q => Q (.lst ds)
  | _, _ => False
end
end DL

set_option Elab.async false
set_option linter.all false
set_option maxRecDepth 100000
set_option maxHeartbeats 400000
namespace DL
open PySem L2
section
variable {X : Cx} {W : WX} {a b c e : Expr} {es rest : List Expr} {ta tb tc t : DT} {tA tB' : DB} {tr : DA} {pos : Pos}
theorem de_int1 {p : Pos} (hg : Gl X "int") (hm : X.mg "int" = none) (ha : DAs X W [e] tr) (he : starEach [e] X.env = (false, eval e X.env) :: starEach [] X.env := by rfl) : DE X W (.Call (.Name "int" p) [e] [] pos) (dCB fInt tr) :=
  de_callT call_int1 (fun R Fz B H xs ds Qd Q w h hf k => by
    unfold fInt at hf
    split at hf
    · cases h with | cons h t => cases t; cases h; exact .inl ⟨_, rfl, k _ H B _ (Ex.refl B) w (.int _) hf⟩
    · cases h with | cons h t => cases t; cases h; exact .inr ⟨_, rfl, k _ H B _ (Ex.refl B) w (.int _) hf⟩
    · exact hf.elim) hg hm (by decide +kernel) ha (he := he)
theorem de_min2 {p : Pos} {e2 : Expr} (hc : X.calm = true) (hg : Gl X "min") (hm : X.mg "min" = none) (ha : DAs X W [e, e2] tr) (he : starEach [e, e2] X.env = (false, eval e X.env) :: starEach [e2] X.env := by rfl) (hpl : (backTo pos (starEach [e2] X.env)).any (·.1) = false := by rfl) : DE X W (.Call (.Name "min" p) [e, e2] [] pos) (dCB fMin2 tr) :=
  de_callB (call_min2 hc) (fun R Fz B H xs ds Qd Q w h hf k => by
    unfold fMin2 at hf
    split at hf
    · cases h with | cons h t => cases t with | cons h2 t => cases t; cases h; cases h2; exact ⟨_, _, rfl, k _ H B _ (Ex.refl B) w (.int _) hf⟩
    · exact hf.elim) hg hm (by decide +kernel) ha (he := he) (hpl := hpl)
theorem de_tuple {p : Pos} (hg : Gl X "tuple") (hm : X.mg "tuple" = none) (ha : DAs X W [e] tr) (he : starEach [e] X.env = (false, eval e X.env) :: starEach [] X.env := by rfl) : DE X W (.Call (.Name "tuple" p) [e] [] pos) (dCB fTuple tr) :=
  de_callT call_tupleF (fun R Fz B H xs ds Qd Q w h hf k => by
    unfold fTuple at hf
    split at hf
    · cases h with
      | cons h t => cases t; cases h with
        | lst s h => exact ⟨_, _, rfl, .inl ⟨SqL.of (w.ex _ _ s), fun p o hp ho => k _ _ _ _ (Ex.new (w.free hp)) (w.new hp) (.tup (.new ho) (h.mono (Ex.new (w.free hp)))) hf⟩⟩
    · cases h with
      | cons h t => cases t; cases h with
        | tup s h => exact ⟨_, _, rfl, .inr ⟨w.ex.st s.st, k _ H B _ (Ex.refl B) w (.tup s h) hf⟩⟩
    · exact hf.elim) hg hm (by decide +kernel) ha (he := he)
theorem de_list {p : Pos} (hg : Gl X "list") (hm : X.mg "list" = none) (ha : DAs X W [e] tr) (he : starEach [e] X.env = (false, eval e X.env) :: starEach [] X.env := by rfl) : DE X W (.Call (.Name "list" p) [e] [] pos) (dCB fList tr) :=
  de_callT call_list_of (fun R Fz B H xs ds Qd Q w h hf k => by
    unfold fList at hf
    split at hf
    · cases h with
      | cons h t => cases t; cases h with
        | lst s h => exact ⟨_, _, rfl, .inl (SqL.of (w.ex _ _ s)), fun p hp => k _ _ _ _ (Ex.new (w.free hp)) (w.new hp) (.lst upd_same (h.mono (Ex.new (w.free hp)))) hf⟩
    · cases h with
      | cons h t => cases t; cases h with
        | tup s h => exact ⟨_, _, rfl, .inr (w.ex.st s.st), fun p hp => k _ _ _ _ (Ex.new (w.free hp)) (w.new hp) (.lst upd_same (h.mono (Ex.new (w.free hp)))) hf⟩
    · cases h with
      | cons h t => cases t; cases h with
        | frl s h => exact ⟨_, _, rfl, .inl (w.ex.sl s), fun p hp => k _ _ _ _ (Ex.new (w.free hp)) (w.new hp) (.lst upd_same (h.mono (Ex.new (w.free hp)))) hf⟩
    · exact hf.elim) hg hm (by decide +kernel) ha (he := he)

/-! ### subscripts -/
theorem atI_len {α β : Type} {xs : List α} {ys : List β} {i : Int} {y : β} (h : xs.length = ys.length) (e : atI ys i = some y) : ∃ j : Nat, ys[j]? = some y ∧ ∀ x, xs[j]? = some x → atI xs i = some x := by
  unfold atI at e ⊢
  cases q : ixN ys.length i with
  | none => rw [q] at e; cases e
  | some j =>
    rw [q] at e
    refine ⟨j, e, fun x hx => ?_⟩
    rw [h, q]
    exact hx
def fIx : F2
  | .lst ds, .int i, Q => ∃ d, atI ds i = some d ∧ Q d
  | .tup ds, .int i, Q => ∃ d, atI ds i = some d ∧ Q d
  | .str x, .int i, Q => x.length ≤ sizeLine ∧ ∃ c, atI x.cps.toList i = some c ∧ Q (.str ⟨#[c]⟩)
  | _, _, _ => False
theorem fIx_ok {M : Md} : OpD M (rIx M.K) fIx := by
  intro R Fz B H x y dx dy Qd Q w hx hy h k
  unfold fIx at h
  split at h
  · obtain ⟨d, e, h⟩ := h
    cases hy
    cases hx with
    | lst s hx =>
      obtain ⟨j, e1, e2⟩ := atI_len hx.length e
      obtain ⟨v, hv, hd⟩ := hx.get e1
      exact .inl ⟨_, _, _, v, rfl, rfl, SqL.of (w.ex _ _ s), e2 v hv, k _ H B _ (Ex.refl B) w hd h⟩
  · obtain ⟨d, e, h⟩ := h
    cases hy
    cases hx with
    | tup s hx =>
      obtain ⟨j, e1, e2⟩ := atI_len hx.length e
      obtain ⟨v, hv, hd⟩ := hx.get e1
      exact .inr (.inl ⟨_, _, _, v, rfl, rfl, w.ex.st s.st, e2 v hv, k _ H B _ (Ex.refl B) w hd h⟩)
  · obtain ⟨hz, c, e, h⟩ := h
    cases hy
    cases hx
    exact .inr (.inr ⟨_, _, c, rfl, rfl, hz, e, k _ H B _ (Ex.refl B) w (.str _) h⟩)
  · exact h.elim
theorem de_ix (ha : DE X W a ta) (hb : DE X W b tb) (hs : PlainIx b := by exact fun _ _ => rfl) : DE X W (.Subscript a b pos) (dBin fIx ta tb) := (pe_ix ix_seq ha hb hs).imp fun _ _ _ h => lift2 fIx_ok h

/-! ### slices -/
abbrev DO := Res → Env → (Res → Option Int → Prop) → DX → Prop
def liftO (M : Md) (W : WX) (t : DO) : TO := fun σ H Q => ∃ (R : Res) (Fz B : Hp) (ρ : Env) (Qd : Res → Option Int → Prop) (E : DX), Wd R B Fz H ∧ Slots M B σ ρ ∧ t R ρ Qd E ∧
  (∀ (R : Res) (o : Option Int) (H' B' : Hp), Ex B B' → Wd R B' Fz H' → Qd R o → Q o H') ∧ XL M W B Fz σ E
theorem _root_.L2.PO.imp {X : Cx} {e : Option Expr} {t t' : TO} (h : PO X e t) (f : ∀ σ H Q, t' σ H Q → t σ H Q) : PO X e t' := ⟨fun pins s σ H Q I q => h.run pins s σ H Q I (f σ H Q q)⟩
abbrev DPo (X : Cx) (W : WX) (e : Option Expr) (t : DO) : Prop := PO X e (liftO X.md W t)
def dNoPart : DO := fun R _ Q _ => Q R none
def dPart (t : DT) : DO := fun R ρ Q E => t R ρ (fun R d => ∃ i, d = .int i ∧ Q R (some i)) E
theorem dpo_none : DPo X W none dNoPart := po_none.imp fun σ H Q ⟨R, Fz, B, ρ, Qd, E, w, sl, q, k, x⟩ => k R none H B (Ex.refl B) w q
theorem dpo_some (h : DE X W e t) : DPo X W (some e) (dPart t) := (po_some h).imp fun σ H Q ⟨R, Fz, B, ρ, Qd, E, w, sl, q, k, x⟩ =>
  ⟨R, Fz, B, ρ, _, E, w, sl, q, fun R v H1 B1 d e1 w1 h1 ⟨i, hi, q1⟩ => by subst hi; exact ⟨i, h1.ofInt, k R _ H1 B1 e1 w1 q1⟩, x⟩
def cutD (xs : List D) (lo hi : Option Int) : List D := (xs.drop (HT.sIx xs.length 0 lo)).take (HT.sIx xs.length xs.length hi - HT.sIx xs.length 0 lo)
abbrev FS := D → Option Int → Option Int → (D → Prop) → Prop
def fCut : FS
  | .lst ds, lo, hi, Q => Q (.lst (cutD ds lo hi))
  | .tup ds, lo, hi, Q => Q (.tup (cutD ds lo hi))
  | .str x, lo, hi, Q => x.length ≤ sizeLine ∧ Q (.str (cutS x lo hi))
  | _, _, _, _ => False
theorem HTsIx_map {n m : Nat} (h : n = m) (k : Nat) (o : Option Int) : HT.sIx n k o = HT.sIx m k o := by rw [h]
theorem cut_dps {M : Md} {B : Hp} {xs : List V} {ds : List D} (h : Dps M B xs ds) (lo hi : Option Int) : Dps M B (cutV xs lo hi) (cutD ds lo hi) := by
  unfold cutV cutD
  rw [h.length]
  exact (h.drop _).take _
abbrev rCutAll (K : PySem.W.Frag) : V → Option Int → Option Int → Hp → VK → Prop := fun x lo hi H Q => rSlL K x lo hi H Q ∨ (fun x lo hi H Q => rSlF K x lo hi H Q ∨ rSlS x lo hi H Q) x lo hi H Q
theorem slAll : SlR X (rCutAll X.K) := sl_list.or (sl_tupF.or sl_str)
theorem cut_whole {ds : List D} {lo hi : Option Int} (h1 : HT.sIx ds.length 0 lo = 0) (h2 : HT.sIx ds.length ds.length hi = ds.length) : cutD ds lo hi = ds := by
  unfold cutD
  rw [h1, h2]
  simp
theorem fCut_ok {M : Md} (R : Res) (Fz B H : Hp) (x : V) (dx : D) (lo hi : Option Int) (Qd : D → Prop) (Q : VK) (w : Wd R B Fz H) (hx : Dp M B x dx) (h : fCut dx lo hi Qd) (k : VP M R B Fz Qd Q) : rCutAll M.K x lo hi H Q := by
  unfold fCut at h
  split at h
  · cases hx with
    | lst s hx => exact .inl ⟨_, _, rfl, SqL.of (w.ex _ _ s), fun p hp => k _ _ _ _ (Ex.new (w.free hp)) (w.new hp) (.lst upd_same ((cut_dps hx lo hi).mono (Ex.new (w.free hp)))) h⟩
  · cases hx with
    | tup s hx =>
      refine .inr (.inl ⟨_, _, rfl, w.ex.st s.st, fun q => ?_, fun _ p o hp ho => k _ _ _ _ (Ex.new (w.free hp)) (w.new hp) (.tup (.new ho) ((cut_dps hx lo hi).mono (Ex.new (w.free hp)))) h⟩)
      rw [hx.length] at q
      rw [cut_whole q.1 q.2] at h
      exact k _ H B _ (Ex.refl B) w (.tup s hx) h
  · cases hx
    exact .inr (.inr ⟨_, rfl, h.1, k _ H B _ (Ex.refl B) w (.str _) h.2⟩)
  · exact h.elim
def dSl (f : FS) (t : DT) (tl th : DO) : DT := fun R ρ Q E => t R ρ (fun R d => tl R ρ (fun R lo => th R ρ (fun R hi => f d lo hi (Q R)) E) E) E
theorem de_slice {lo hi : Option Expr} {tl th : DO} {p2 : Pos} (he : DE X W e t) (hl : DPo X W lo tl) (hu : DPo X W hi th) : DE X W (.Subscript e (.Slice lo hi none p2) pos) (dSl fCut t tl th) :=
  (pe_slice slAll he hl hu).imp fun σ H Q ⟨R, Fz, B, ρ, Qd, E, w, sl, q, k, x⟩ =>
    ⟨R, Fz, B, ρ, _, E, w, sl, q, fun R v H1 B1 d e1 w1 h1 q1 => ⟨R, Fz, B1, ρ, _, E, w1, sl.mono e1, q1, fun R o H2 B2 e2 w2 q2 =>
      ⟨R, Fz, B2, ρ, _, E, w2, (sl.mono e1).mono e2, q2, fun R o' H3 B3 e3 w3 q3 => fCut_ok R Fz B3 H3 v d o o' _ Q w3 (h1.mono (e2.trans e3)) q3 ((k.mono ((e1.trans e2).trans e3)).at R), x.mono (e1.trans e2)⟩, x.mono e1⟩, x⟩
def dUn (f : D → (D → Prop) → Prop) (t : DT) : DT := fun R ρ Q E => t R ρ (fun R d => f d (Q R)) E
def fNeg : D → (D → Prop) → Prop
  | .int i, Q => Q (.int (-i))
  | _, _ => False
theorem de_neg (ha : DE X W a ta) : DE X W (.UnaryOp .USub a pos) (dUn fNeg ta) := (pe_un un_neg ha).imp fun σ H Q ⟨R, Fz, B, ρ, Qd, E, w, sl, q, k, x⟩ =>
  ⟨R, Fz, B, ρ, _, E, w, sl, q, fun R v H1 B1 d e1 w1 h1 q1 => by
    have q1 : fNeg d (Qd R) := q1
    unfold fNeg at q1
    split at q1
    · cases h1; exact ⟨_, rfl, k R _ H1 B1 _ e1 w1 (.int _) q1⟩
    · exact q1.elim, x⟩

/-! ### calls of the program's own -/
abbrev DSp := Res → List D → DQ → DX → Prop
def spL (M : Md) (sp : DSp) : Sp := fun vs H Q E => ∃ (R : Res) (Fz B : Hp) (ds : List D) (Qd : DQ) (Ed : DX), Wd R B Fz H ∧ Dps M B vs ds ∧ sp R ds Qd Ed ∧ VL M B Fz Qd Q ∧
  ∀ (R : Res) (c : Str) (C dd : Addr) (H' B' : Hp) (us : List (Str × V)) (fs : List (Str × D)), M.mg c = some (.ref C) → Ex B B' → Wd R B' Fz H' → B' dd = some (.xd us) → Dpf M B' us fs → Ed R c fs → E (.ref C) (some dd) H'
def dCall (sp : DSp) (ta : DA) : DT := fun R ρ Q E => ta R ρ (fun R ds => sp R ds Q E) E
theorem de_call {k : Nat} {f : Addr} {fd : FuncData} {ps : List Str} {sp : DSp} {x : Str} {p : Pos} (F : FnOk X.prog X.w X.K X.mg X.base (L2.CX X.prog X.w) k f fd ps (spL X.md sp)) (hr : Room k X.A) (hg : Gl X x) (hm : X.mg x = some (.ref f)) (hk : PySem.W.keepIn X.K (.ref f) = true)
    (hb : Binds X.K fd ps []) (tk : Takes X W) (ha : DAs X W (e :: es) tr) (hdb : (x == ("__debug__" : Str)) = false := by decide) (he : starEach (e :: es) X.env = (false, eval e X.env) :: starEach es X.env := by rfl) (hpl : (backTo pos (starEach es X.env)).any (·.1) = false := by rfl) :
    DE X W (.Call (.Name x p) (e :: es) [] pos) (dCall sp tr) :=
  (pe_callS F hr hg hm hk hb (fun σ => passAt tk σ) ha hdb he hpl).imp fun σ H Q ⟨R, Fz, B, ρ, Qd, E, w, sl, q, k, x⟩ =>
    ⟨R, Fz, B, ρ, _, E, w, sl, q, fun R vs H1 B1 ds e1 w1 h1 q1 => ⟨R, Fz, B1, ds, Qd, E, w1, h1, q1, k.mono e1, fun R c C dd H' B' us fs m e2 w2 hd hf he => x R c C dd H' B' us fs m (e1.trans e2) w2 hd hf he⟩, x⟩
end
end DL

set_option Elab.async false
set_option linter.all false
set_option maxRecDepth 100000
set_option maxHeartbeats 400000
namespace DL
open PySem L2

/-! ### what is walked -/
structure ItD (M : Md) (B : Hp) (J : It) (ds : List D) : Prop where
  go : ∀ (R : Res) (Fz B2 H2 : Hp) (i : Nat), Ex B B2 → Wd R B2 Fz H2 → i < ds.length → J.go i H2
  yld : ∀ (R : Res) (Fz B2 H2 : Hp) (i : Nat) (x : V) (H3 : Hp), Ex B B2 → Wd R B2 Fz H2 → i < ds.length → J.yld i H2 x H3 → ∃ d B3, ds[i]? = some d ∧ Ex B2 B3 ∧ Wd R B3 Fz H3 ∧ Dp M B3 x d
  stop : ∀ (R : Res) (Fz B2 H2 : Hp) (i : Nat), Ex B B2 → Wd R B2 Fz H2 → ds.length ≤ i → J.stop i H2
section
variable {M : Md} {B : Hp} {a b : Addr} {xs ys : List V} {ds es : List D}
theorem get_lt {α : Type} {l : List α} {i : Nat} (h : i < l.length) : ∃ x, l[i]? = some x := ⟨l[i], List.getElem?_eq_getElem h⟩
theorem itd_list (s : SqL M.K B a xs) (h : Dps M B xs ds) : ItD M B (Itl M.K a) ds where
  go := fun R Fz B2 H2 i e w hi => by
    obtain ⟨x, hx⟩ := get_lt (l := xs) (i := i) (by rw [h.length]; exact hi)
    exact ⟨xs, x, (e.trans w.ex).sl s, hx⟩
  yld := fun R Fz B2 H2 i x H3 e w hi q => by
    obtain ⟨rfl, q⟩ := q
    obtain ⟨d, h1, h2⟩ := h.getV (q xs ((e.trans w.ex).sl s))
    exact ⟨d, B2, h1, Ex.refl B2, w, h2.mono e⟩
  stop := fun R Fz B2 H2 i e w hi => ⟨xs, (e.trans w.ex).sl s, by rw [h.length]; exact hi⟩
theorem itd_tup (s : SqT M.K B a xs) (h : Dps M B xs ds) : ItD M B (Itt M.K a) ds where
  go := fun R Fz B2 H2 i e w hi => by
    obtain ⟨x, hx⟩ := get_lt (l := xs) (i := i) (by rw [h.length]; exact hi)
    exact ⟨xs, x, (e.trans w.ex).st s, hx⟩
  yld := fun R Fz B2 H2 i x H3 e w hi q => by
    obtain ⟨rfl, q⟩ := q
    obtain ⟨d, h1, h2⟩ := h.getV (q xs ((e.trans w.ex).st s))
    exact ⟨d, B2, h1, Ex.refl B2, w, h2.mono e⟩
  stop := fun R Fz B2 H2 i e w hi => ⟨xs, (e.trans w.ex).st s, by rw [h.length]; exact hi⟩
def signsD (x : Str) : List D := x.cps.toList.map fun c => .str ⟨#[c]⟩
theorem itd_str (x : Str) : ItD M B (Its x) (signsD x) where
  go := fun R Fz B2 H2 i e w hi => by unfold signsD at hi; rw [List.length_map, Array.length_toList] at hi; exact hi
  yld := fun R Fz B2 H2 i v H3 e w hi q => by
    obtain ⟨rfl, c, hc, rfl⟩ := q
    refine ⟨.str ⟨#[c]⟩, B2, ?_, Ex.refl B2, w, .str _⟩
    unfold signsD
    rw [List.getElem?_map, Array.getElem?_toList, hc]; rfl
  stop := fun R Fz B2 H2 i e w hi => by unfold signsD at hi; rw [List.length_map, Array.length_toList] at hi; exact hi
def rangeD (lo : Int) (n : Nat) : List D := (List.range n).map fun i => .int (lo + (i : Nat))
theorem itd_range (lo : Int) (n : Nat) : ItD M B (Itr lo n) (rangeD lo n) where
  go := fun R Fz B2 H2 i e w hi => by unfold rangeD at hi; rw [List.length_map, List.length_range] at hi; exact hi
  yld := fun R Fz B2 H2 i v H3 e w hi q => by
    obtain ⟨rfl, rfl⟩ := q
    refine ⟨.int (lo + i), B2, ?_, Ex.refl B2, w, .int _⟩
    unfold rangeD at hi ⊢
    rw [List.length_map, List.length_range] at hi
    rw [List.getElem?_map, List.getElem?_range hi]; rfl
  stop := fun R Fz B2 H2 i e w hi => by unfold rangeD at hi; rw [List.length_map, List.length_range] at hi; exact hi
def zipD (xs ys : List D) : List D := List.zipWith (fun x y => .tpw [x, y]) xs ys
theorem zip_get {xs ys : List D} {i : Nat} {x y : D} (hx : xs[i]? = some x) (hy : ys[i]? = some y) : (zipD xs ys)[i]? = some (.tpw [x, y]) := by
  unfold zipD
  rw [List.getElem?_zipWith, hx, hy]
theorem itd_zip (s : SqL M.K B a xs) (h : Dps M B xs ds) (s2 : SqL M.K B b ys) (h2 : Dps M B ys es) : ItD M B (Itz M.K a b) (zipD ds es) where
  go := fun R Fz B2 H2 i e w hi => by
    unfold zipD at hi
    rw [List.length_zipWith] at hi
    obtain ⟨x, hx⟩ := get_lt (l := xs) (i := i) (by rw [h.length]; omega)
    obtain ⟨y, hy⟩ := get_lt (l := ys) (i := i) (by rw [h2.length]; omega)
    exact ⟨xs, ys, x, y, (e.trans w.ex).sl s, (e.trans w.ex).sl s2, hx, hy⟩
  yld := fun R Fz B2 H2 i v H3 e w hi q => by
    obtain ⟨T, x, y, rfl, hT, rfl, q1, q2⟩ := q
    obtain ⟨d1, k1, k2⟩ := h.getV (q1 xs ((e.trans w.ex).sl s))
    obtain ⟨d2, k3, k4⟩ := h2.getV (q2 ys ((e.trans w.ex).sl s2))
    have n := Ex.new (o := .tup [x, y]) (w.free hT)
    exact ⟨.tpw [d1, d2], _, zip_get k1 k3, n, w.new hT, .tpw (.inl (.inl upd_same)) (.cons (k2.mono (e.trans n)) (.cons (k4.mono (e.trans n)) .nil))⟩
  stop := fun R Fz B2 H2 i e w hi => by
    unfold zipD at hi
    rw [List.length_zipWith] at hi
    refine ⟨xs, ys, (e.trans w.ex).sl s, (e.trans w.ex).sl s2, ?_⟩
    rw [h.length, h2.length]; omega
theorem itd_zipT (s : SqT M.K B a xs) (h : Dps M B xs ds) (s2 : SqT M.K B b ys) (h2 : Dps M B ys es) : ItD M B (RZ.ItzT M.K a b) (zipD ds es) where
  go := fun R Fz B2 H2 i e w hi => by
    unfold zipD at hi
    rw [List.length_zipWith] at hi
    obtain ⟨x, hx⟩ := get_lt (l := xs) (i := i) (by rw [h.length]; omega)
    obtain ⟨y, hy⟩ := get_lt (l := ys) (i := i) (by rw [h2.length]; omega)
    exact ⟨xs, ys, x, y, (e.trans w.ex).st s, (e.trans w.ex).st s2, hx, hy⟩
  yld := fun R Fz B2 H2 i v H3 e w hi q => by
    obtain ⟨T, x, y, rfl, hT, rfl, q1, q2⟩ := q
    obtain ⟨d1, k1, k2⟩ := h.getV (q1 xs ((e.trans w.ex).st s))
    obtain ⟨d2, k3, k4⟩ := h2.getV (q2 ys ((e.trans w.ex).st s2))
    have n := Ex.new (o := .tup [x, y]) (w.free hT)
    exact ⟨.tpw [d1, d2], _, zip_get k1 k3, n, w.new hT, .tpw (.inl (.inl upd_same)) (.cons (k2.mono (e.trans n)) (.cons (k4.mono (e.trans n)) .nil))⟩
  stop := fun R Fz B2 H2 i e w hi => by
    unfold zipD at hi
    rw [List.length_zipWith] at hi
    refine ⟨xs, ys, (e.trans w.ex).st s, (e.trans w.ex).st s2, ?_⟩
    rw [h.length, h2.length]; omega
def enumD (k : Int) : List D → List D
  | [] => []
  | d :: r => .tpw [.int k, d] :: enumD (k + 1) r
theorem enum_len : ∀ (k : Int) (ds : List D), (enumD k ds).length = ds.length
  | _, [] => rfl
  | k, _ :: r => by show (enumD (k + 1) r).length + 1 = _; rw [enum_len (k + 1) r]; rfl
theorem enum_get : ∀ (k : Int) (ds : List D) (i : Nat) (d : D), ds[i]? = some d → (enumD k ds)[i]? = some (.tpw [.int (k + i), d])
  | _, [], _, _, h => by simp at h
  | k, _ :: r, 0, d, h => by
    simp at h; subst h
    show some _ = some _
    rw [show k + ((0 : Nat) : Int) = k from Int.add_zero k]
  | k, x :: r, i + 1, d, h => by
    have := enum_get (k + 1) r i d (by simpa using h)
    show (enumD (k + 1) r)[i]? = _
    rw [this, show k + 1 + (i : Int) = k + ((i + 1 : Nat) : Int) by omega]
theorem itd_enum (s : SqL M.K B a xs) (h : Dps M B xs ds) : ItD M B (Ite M.K a) (enumD 0 ds) where
  go := fun R Fz B2 H2 i e w hi => by
    rw [enum_len] at hi
    obtain ⟨x, hx⟩ := get_lt (l := xs) (i := i) (by rw [h.length]; exact hi)
    exact ⟨xs, x, (e.trans w.ex).sl s, hx⟩
  yld := fun R Fz B2 H2 i v H3 e w hi q => by
    obtain ⟨T, x, rfl, hT, rfl, q1⟩ := q
    obtain ⟨d1, k1, k2⟩ := h.getV (q1 xs ((e.trans w.ex).sl s))
    have n := Ex.new (o := .tup [.int (i : Nat), x]) (w.free hT)
    have g := enum_get 0 ds i d1 k1
    rw [Int.zero_add] at g
    exact ⟨_, _, g, n, w.new hT, .tpw (.inl (.inl upd_same)) (.cons (.int _) (.cons (k2.mono (e.trans n)) .nil))⟩
  stop := fun R Fz B2 H2 i e w hi => by
    rw [enum_len] at hi
    exact ⟨xs, (e.trans w.ex).sl s, by rw [h.length]; exact hi⟩
end
abbrev DI := DA
def liftI (M : Md) (W : WX) (t : DI) : TI := fun σ H RR => ∃ (R : Res) (Fz B : Hp) (ρ : Env) (Qd : Res → List D → Prop) (E : DX), Wd R B Fz H ∧ Slots M B σ ρ ∧ t R ρ Qd E ∧
  (∀ (R : Res) (J : It) (H' B' : Hp) (ds : List D), Ex B B' → Wd R B' Fz H' → ItD M B' J ds → Qd R ds → RR J H') ∧ XL M W B Fz σ E
abbrev DIt (X : Cx) (W : WX) (tg e : Expr) (t : DI) : Prop := PI X tg e (liftI X.md W t)
theorem _root_.L2.PI.imp {X : Cx} {tg e : Expr} {t t' : TI} (h : PI X tg e t) (f : ∀ σ H Q, t' σ H Q → t σ H Q) : PI X tg e t' := ⟨fun pins s σ H Q I q => h.run pins s σ H Q I (f σ H Q q)⟩
section
variable {X : Cx} {W : WX} {a b c e e2 tg : Expr} {es rest : List Expr} {ta tb tc t : DT} {tA tB' : DB} {tr : DA} {pos : Pos}
def itemsD : D → Option (List D)
  | .lst ds => some ds | .tup ds => some ds | .frl ds => some ds | .str x => some (signsD x) | _ => none
def dItems (t : DT) : DI := fun R ρ Q E => t R ρ (fun R d => ∃ ds, itemsD d = some ds ∧ Q R ds) E
/-- a list, a tuple, a text, whichever it is -/
def iAny (K : PySem.W.Frag) (te : TE) : TI := fun σ H RR => te σ H fun x H1 => (∃ a xs, x = .ref a ∧ SqL K H1 a xs ∧ RR (Itl K a) H1) ∨ (∃ a xs, x = .ref a ∧ SqT K H1 a xs ∧ RR (Itt K a) H1) ∨ ∃ z, x = .str z ∧ RR (Its z) H1
theorem pi_any {te : TE} (he : PE X e te) : PI X tg e (iAny X.K te) := ⟨fun pins s σ H RR I hh => thn (he.run pins s σ H _ I hh) fun v s1 ⟨x, H1, I1, r1, q1⟩ => by
  rcases q1 with ⟨a, xs, rfl, hq, q⟩ | ⟨a, xs, rfl, hq, q⟩ | ⟨z, rfl, q⟩
  · cases r1
    obtain ⟨its, rv, p, hz⟩ := I1.list hq
    exact wpAny_pyIter_list p.isList (pi_one (tk := s1.toks) I1 _ (turn_list a _) ⟨_, Heap.get?_push_size _ rfl, rfl, rfl⟩ q)
  · cases r1
    obtain ⟨its, rv, p, hz⟩ := I1.tuple hq
    exact wpAny_pyIter_tuple p (pi_one (tk := s1.toks) I1 _ (turn_tuple a _) ⟨_, Heap.get?_push_size _ rfl, rfl, rfl⟩ q)
  · obtain ⟨t, rfl⟩ := r1
    cases ha : z.cps.all (· < 128)
    · exact wpAny_pyIter_wide ha (pi_one (tk := s1.toks) I1 _ (turn_str _ z t "str_iterator" (.inr rfl)) ⟨_, Heap.get?_push_size _ rfl, rfl, rfl⟩ q)
    · exact wpAny_pyIter_ascii ha (pi_one (tk := s1.toks) I1 _ (turn_str _ z t "str_ascii_iterator" (.inl rfl)) ⟨_, Heap.get?_push_size _ rfl, rfl, rfl⟩ q)⟩
theorem di_any (he : DE X W e t) : DIt X W tg e (dItems t) := (pi_any he).imp fun σ H Q ⟨R, Fz, B, ρ, Qd, E, w, sl, q, k, x⟩ =>
  ⟨R, Fz, B, ρ, _, E, w, sl, q, fun R v H1 B1 d e1 w1 h1 ⟨ds, hd, q1⟩ => by
    cases h1 with
    | lst s h => cases hd; exact .inl ⟨_, _, rfl, SqL.of (w1.ex _ _ s), k R _ H1 B1 _ e1 w1 (itd_list (SqL.of s) h) q1⟩
    | frl s h => cases hd; exact .inl ⟨_, _, rfl, w1.ex.sl s, k R _ H1 B1 _ e1 w1 (itd_list s h) q1⟩
    | tup s h => cases hd; exact .inr (.inl ⟨_, _, rfl, w1.ex.st s.st, k R _ H1 B1 _ e1 w1 (itd_tup s.st h) q1⟩)
    | str z => cases hd; exact .inr (.inr ⟨z, rfl, k R _ H1 B1 _ e1 w1 (itd_str z) q1⟩)
    | _ => (cases hd), x⟩
def dRange1 (ta : DA) : DI := fun R ρ Q E => ta R ρ (fun R ds => ∃ j : Int, ds = [.int j] ∧ -(2 ^ 62) ≤ j ∧ j < 2 ^ 62 ∧ Q R (rangeD 0 j.toNat)) E
def dRange2 (ta : DA) : DI := fun R ρ Q E => ta R ρ (fun R ds => ∃ i j : Int, ds = [.int i, .int j] ∧ (-(2 ^ 62) ≤ i ∧ i < 2 ^ 62 ∧ -(2 ^ 62) ≤ j ∧ j < 2 ^ 62) ∧ Q R (rangeD i (j - i).toNat)) E
theorem Dps.ofInt1 {M : Md} {B : Hp} {vs : List V} {j : Int} (h : Dps M B vs [.int j]) : vs = [.int j] := by
  cases h with | cons h t => cases t; cases h; rfl
theorem Dps.ofInt2 {M : Md} {B : Hp} {vs : List V} {i j : Int} (h : Dps M B vs [.int i, .int j]) : vs = [.int i, .int j] := by
  cases h with | cons h t => cases h; rw [t.ofInt1]
theorem di_range1 {p : Pos} (hg : Gl X "range") (hm : X.mg "range" = none) (ha : DAs X W [a] tr) (hs : starEach [a] X.env = [(false, eval a X.env)] := by rfl) : DIt X W tg (.Call (.Name "range" p) [a] [] pos) (dRange1 tr) :=
  (pi_range1 hg hm ha hs).imp fun σ H Q ⟨R, Fz, B, ρ, Qd, E, w, sl, q, k, x⟩ => ⟨R, Fz, B, ρ, _, E, w, sl, q, fun R vs H1 B1 ds e1 w1 h1 ⟨j, hj, b1, b2, q1⟩ => by
    subst hj
    exact ⟨j, h1.ofInt1, b1, b2, k R _ H1 B1 _ e1 w1 (itd_range 0 _) q1⟩, x⟩
theorem di_range2 {p : Pos} (hg : Gl X "range") (hm : X.mg "range" = none) (ha : DAs X W [a, b] tr) (hs : starEach [a, b] X.env = [(false, eval a X.env), (false, eval b X.env)] := by rfl) (hs2 : starEach [b] X.env = [(false, eval b X.env)] := by rfl) : DIt X W tg (.Call (.Name "range" p) [a, b] [] pos) (dRange2 tr) :=
  (pi_range2 hg hm ha hs hs2).imp fun σ H Q ⟨R, Fz, B, ρ, Qd, E, w, sl, q, k, x⟩ => ⟨R, Fz, B, ρ, _, E, w, sl, q, fun R vs H1 B1 ds e1 w1 h1 ⟨i, j, hj, b1, q1⟩ => by
    subst hj
    exact ⟨i, j, h1.ofInt2, b1, k R _ H1 B1 _ e1 w1 (itd_range i _) q1⟩, x⟩
/-- zip of two lists, of two tuples -/
def dZip (ta : DA) : DI := fun R ρ Q E => ta R ρ (fun R ds => (∃ xs ys, ds = [.lst xs, .lst ys] ∧ Q R (zipD xs ys)) ∨ ∃ xs ys, ds = [.tup xs, .tup ys] ∧ Q R (zipD xs ys)) E
theorem di_zip {p tpos : Pos} {elts : List Expr} {kk : Nat} (hg : Gl X "zip") (hm : X.mg "zip" = none) (ha : DAs X W [e, e2] tr) (hs : starEach [e, e2] X.env = (false, eval e X.env) :: starEach [e2] X.env := by rfl)
    (hpl : (backTo pos (starEach [e2] X.env)).any (·.1) = false := by rfl) : DIt X W (.Tuple elts kk tpos) (.Call (.Name "zip" p) [e, e2] [] pos) (dZip tr) :=
  (RZ.pi_zipA hg hm ha hs hpl).imp fun σ H Q ⟨R, Fz, B, ρ, Qd, E, w, sl, q, k, x⟩ => ⟨R, Fz, B, ρ, _, E, w, sl, q, fun R vs H1 B1 ds e1 w1 h1 q1 => by
    rcases q1 with ⟨xs, ys, rfl, q1⟩ | ⟨xs, ys, rfl, q1⟩
    · cases h1 with
      | cons h1 t => cases t with
        | cons h2 t => cases t; cases h1 with
          | lst s h1 => cases h2 with
            | lst s2 h2 => exact ⟨_, _, _, _, rfl, .inl ⟨SqL.of (w1.ex _ _ s), SqL.of (w1.ex _ _ s2), k R _ H1 B1 _ e1 w1 (itd_zip (SqL.of s) h1 (SqL.of s2) h2) q1⟩⟩
    · cases h1 with
      | cons h1 t => cases t with
        | cons h2 t => cases t; cases h1 with
          | tup s h1 => cases h2 with
            | tup s2 h2 => exact ⟨_, _, _, _, rfl, .inr ⟨w1.ex.st s.st, w1.ex.st s2.st, k R _ H1 B1 _ e1 w1 (itd_zipT s.st h1 s2.st h2) q1⟩⟩, x⟩
def dEnum (ta : DA) : DI := fun R ρ Q E => ta R ρ (fun R ds => ∃ xs, ds = [.lst xs] ∧ Q R (enumD 0 xs)) E
theorem di_enum {p tpos : Pos} {elts : List Expr} {kk : Nat} (hg : Gl X "enumerate") (hm : X.mg "enumerate" = none) (ha : DAs X W [e] tr) (hs : starEach [e] X.env = [(false, eval e X.env)] := by rfl) :
    DIt X W (.Tuple elts kk tpos) (.Call (.Name "enumerate" p) [e] [] pos) (dEnum tr) :=
  (pi_enum hg hm ha hs).imp fun σ H Q ⟨R, Fz, B, ρ, Qd, E, w, sl, q, k, x⟩ => ⟨R, Fz, B, ρ, _, E, w, sl, q, fun R vs H1 B1 ds e1 w1 h1 ⟨xs, hx, q1⟩ => by
    subst hx
    cases h1 with
    | cons h1 t => cases t; cases h1 with
      | lst s h1 => exact ⟨_, _, rfl, SqL.of (w1.ex _ _ s), k R _ H1 B1 _ e1 w1 (itd_enum (SqL.of s) h1) q1⟩, x⟩
end
end DL

set_option Elab.async false
set_option linter.all false
set_option maxRecDepth 100000
set_option maxHeartbeats 400000
namespace DL
open PySem L2

/-! ### targets: names, tuples of them -/
abbrev DG := D → Env → (Env → Prop) → Prop
/-- only the slots js change -/
def SameBut (js : List Nat) (σ σ' : L2.St) : Prop := σ'.length = σ.length ∧ ∀ i, i ∉ js → σ'[i]? = σ[i]?
theorem SameBut.refl (js : List Nat) (σ : L2.St) : SameBut js σ σ := ⟨rfl, fun _ _ => rfl⟩
theorem SameBut.trans {js : List Nat} {σ σ1 σ2 : L2.St} (a : SameBut js σ σ1) (b : SameBut js σ1 σ2) : SameBut js σ σ2 := ⟨b.1.trans a.1, fun i h => (b.2 i h).trans (a.2 i h)⟩
theorem SameBut.mono {js ks : List Nat} {σ σ' : L2.St} (a : SameBut js σ σ') (h : ∀ i ∈ js, i ∈ ks) : SameBut ks σ σ' := ⟨a.1, fun i n => a.2 i fun m => n (h i m)⟩
theorem SameBut.set {σ : L2.St} {i : Nat} {x : Option V} : SameBut [i] σ (σ.set i x) := ⟨by rw [List.length_set], fun j h => List.getElem?_set_ne (fun e => h (by simp [e]))⟩
theorem wipe_get (σ : L2.St) : ∀ (vs : List Nat) (i : Nat), (L2.wipe σ vs)[i]? = if i ∈ vs ∧ i < σ.length then some none else σ[i]?
  | [], i => by simp [L2.wipe]
  | v :: vs, i => by
    unfold L2.wipe
    by_cases hv : v = i
    · subst hv
      by_cases hl : v < σ.length
      · rw [List.getElem?_set_self (by rw [wipe_length]; exact hl), if_pos ⟨List.mem_cons_self .., hl⟩]
      · rw [if_neg (fun h => hl h.2), List.getElem?_eq_none (by rw [List.length_set, wipe_length]; omega), List.getElem?_eq_none (by omega)]
    · rw [List.getElem?_set_ne hv, wipe_get σ vs i]
      have : (i ∈ v :: vs ∧ i < σ.length) = (i ∈ vs ∧ i < σ.length) := by
        rw [List.mem_cons]; simp [Ne.symm hv]
      simp only [this]
theorem wipe_same {σ σ2 : L2.St} {vs : List Nat} (h : SameBut vs (L2.wipe σ vs) σ2) : L2.wipe σ2 vs = L2.wipe σ vs := by
  apply List.ext_getElem?
  intro i
  have hl : σ2.length = σ.length := by rw [h.1, wipe_length]
  rw [wipe_get, wipe_get, hl]
  by_cases q : i ∈ vs
  · by_cases ql : i < σ.length
    · rw [if_pos ⟨q, ql⟩, if_pos ⟨q, ql⟩]
    · rw [if_neg (fun z => ql z.2), if_neg (fun z => ql z.2), List.getElem?_eq_none (by omega), List.getElem?_eq_none (by omega)]
  · rw [if_neg (fun z => q z.1), if_neg (fun z => q z.1), h.2 i q, wipe_get, if_neg (fun z => q z.1)]
def liftG (M : Md) (js : List Nat) (t : DG) : TG := fun v σ H Q => ∃ (B : Hp) (ρ : Env) (d : D) (Qd : Env → Prop), Ex B H ∧ Slots M B σ ρ ∧ Dp M B v d ∧ t d ρ Qd ∧ ∀ (σ' : L2.St) (ρ' : Env), SameBut js σ σ' → Slots M B σ' ρ' → Qd ρ' → Q σ' H
theorem _root_.L2.PG.imp {X : Cx} {e : Expr} {t t' : TG} (h : PG X e t) (f : ∀ v σ H Q, t' v σ H Q → t v σ H Q) : PG X e t' := ⟨fun pins s σ H v u Q I r q => h.run pins s σ H v u Q I r (f v σ H Q q)⟩
theorem _root_.L2.PGs.imp {X : Cx} {e : List Expr} {t t' : TGs} (h : PGs X e t) (f : ∀ v σ H Q, t' v σ H Q → t v σ H Q) : PGs X e t' := ⟨fun pins s σ H v u Q I r q => h.run pins s σ H v u Q I r (f v σ H Q q)⟩
abbrev DGt (X : Cx) (js : List Nat) (e : Expr) (t : DG) : Prop := PG X e (liftG X.md js t)
abbrev DGl := List D → Env → (Env → Prop) → Prop
def liftGl (M : Md) (js : List Nat) (t : DGl) : TGs := fun v σ H Q => ∃ (B : Hp) (ρ : Env) (d : List D) (Qd : Env → Prop), Ex B H ∧ Slots M B σ ρ ∧ Dps M B v d ∧ t d ρ Qd ∧ ∀ (σ' : L2.St) (ρ' : Env), SameBut js σ σ' → Slots M B σ' ρ' → Qd ρ' → Q σ' H
abbrev DGts (X : Cx) (js : List Nat) (e : List Expr) (t : DGl) : Prop := PGs X e (liftGl X.md js t)
def gdName (i : Nat) : DG := fun d ρ Q => Q (ρ.set i (some d))
def gdNil : DGl := fun ds ρ Q => ds = [] ∧ Q ρ
def gdCons (t : DG) (u : DGl) : DGl := fun ds ρ Q => ∃ d r, ds = d :: r ∧ t d ρ fun ρ' => u r ρ' Q
def gdTup (t : DGl) : DG := fun d ρ Q => ∃ ds, (d = .tup ds ∨ d = .tpw ds) ∧ t ds ρ Q
section
variable {X : Cx} {W : WX} {a b c e e2 tg : Expr} {es rest : List Expr} {ta tb tc t : DT} {tA tB' : DB} {tr : DA} {pos : Pos} {js : List Nat} {g : DG} {gl : DGl}
theorem dg_name {i : Nat} {x : Str} (hN : X.N.Nodup) (hi : X.N[i]? = some x) (hx : Loc X.env.scope x) (hj : i ∈ js) (hf : X.fn x = true ∨ X.env.scope.names.lookup x = some .local := by first | exact .inl rfl | exact .inr rfl | assumption) : DGt X js (.Name x pos) (gdName i) :=
  (pg_name hN hi hx hf).imp fun v σ H Q ⟨B, ρ, d, Qd, ex, sl, hd, q, k⟩ => k _ _ (SameBut.set.mono (fun j m => by simp at m; rw [m]; exact hj)) (sl.set hd) q
theorem dgs_nil : DGts X js [] gdNil := pgs_nil.imp fun v σ H Q ⟨B, ρ, d, Qd, ex, sl, hd, ⟨q1, q⟩, k⟩ => by
  subst q1; cases hd; exact ⟨rfl, k σ ρ (SameBut.refl _ _) sl q⟩
theorem dgs_cons (h1 : DGt X js e g) (h2 : DGts X js es gl) (hs : (assignEach (e :: es) X.env).map (·.2) = assign e X.env :: (assignEach es X.env).map (·.2) := by rfl) : DGts X js (e :: es) (gdCons g gl) :=
  (pgs_cons h1 h2 hs).imp fun v σ H Q ⟨B, ρ, d, Qd, ex, sl, hd, ⟨d1, r, q1, q⟩, k⟩ => by
    subst q1
    cases hd with
    | cons hd ht => exact ⟨_, _, rfl, B, ρ, d1, _, ex, sl, hd, q, fun σ1 ρ1 s1 sl1 q1 => ⟨B, ρ1, r, Qd, ex, sl1, ht, q1, fun σ2 ρ2 s2 sl2 q2 => k σ2 ρ2 (s1.trans s2) sl2 q2⟩⟩
theorem dg_tup {k : Nat} {n : Nat} (hc : X.calm = true) (h : DGts X js es gl) (hn : (assignEach es X.env).length = n := by rfl) (hst : (assignEach es X.env).findIdx? (·.1) = none := by rfl) (hl : ∀ ds ρ Q, gl ds ρ Q → ds.length = n) : DGt X js (.Tuple es k pos) (gdTup gl) :=
  (pg_tup hc h hn hst).imp fun v σ H Q ⟨B, ρ, d, Qd, ex, sl, hd, ⟨ds, q1, q⟩, k⟩ => by
    rcases q1 with q1 | q1
    · subst q1
      cases hd with
      | tup s hd => exact ⟨_, _, rfl, ex.st s.st, by rw [hd.length]; exact hl _ _ _ q, B, ρ, ds, Qd, ex, sl, hd, q, k⟩
    · subst q1
      cases hd with
      | tpw s hd => exact ⟨_, _, rfl, ex.st s, by rw [hd.length]; exact hl _ _ _ q, B, ρ, ds, Qd, ex, sl, hd, q, k⟩
theorem gl_nil : ∀ ds ρ Q, gdNil ds ρ Q → ds.length = 0 := fun ds ρ Q h => by rw [h.1]; rfl
theorem gl_cons {n : Nat} (h : ∀ ds ρ Q, gl ds ρ Q → ds.length = n) (mono : ∀ d ρ Q, g d ρ Q → ∃ ρ', Q ρ') : ∀ ds ρ Q, gdCons g gl ds ρ Q → ds.length = n + 1 := fun ds ρ Q ⟨d, r, e, q⟩ => by
  obtain ⟨ρ', q'⟩ := mono _ _ _ q
  rw [e, List.length_cons, h _ _ _ q']
theorem mono_name {i : Nat} : ∀ d ρ Q, gdName i d ρ Q → ∃ ρ', Q ρ' := fun _ _ _ h => ⟨_, h⟩

/-! ### list comprehensions -/
def noX : DX := fun _ _ _ => False
def W0 : WX := fun _ _ _ _ => False
def lcGo (g : DG) (tt : DB) (te : DT) (ρ : Env) : List D → List D → Res → (Res → List D → Prop) → Prop
  | [], acc, R, Q => Q R acc
  | d :: r, acc, R, Q => g d ρ fun ρ2 => tt R ρ2 (fun R b => if b = true then te R ρ2 (fun R y => acc.length < sizeLine ∧ lcGo g tt te ρ r (acc ++ [y]) R Q) noX else lcGo g tt te ρ r acc R Q) noX
def dLc (ti : DI) (g : DG) (tt : DB) (te : DT) (vs : List Nat) : DT := fun R ρ Q E => ti R ρ (fun R ds => lcGo g tt te (wipeD ρ vs) ds [] R fun R out => Q R (.lst out)) E
theorem XL.no {M : Md} {B Fz : Hp} {σ : L2.St} : XL M W0 B Fz σ noX := fun _ _ _ _ _ _ _ _ _ _ _ _ _ h => h
theorem lc_lift {M : Md} {ti : DI} {g : DG} {tt : DB} {te : DT} {vs js : List Nat} (hj : ∀ i ∈ js, i ∈ vs) {σ : L2.St} {H : Hp} {Q : VK} (h : lift M W (dLc ti g tt te vs) σ H Q) :
    tLc (liftI M W ti) (liftG M js g) (liftB M W0 tt) (lift M W0 te) vs σ H Q := by
  obtain ⟨R, Fz, B, ρ, Qd, E, w, sl, q, k, x⟩ := h
  refine ⟨R, Fz, B, ρ, _, E, w, sl, q, fun R1 J H1 B1 ds e1 w1 it q1 Dl hD => ?_, x⟩
  have sl1 := (sl.mono e1).wipe vs
  refine ⟨fun i m H' => m = ds.length - i ∧ i ≤ ds.length ∧ ∃ R B' av acc, Ex B1 B' ∧ Wd R B' (upd Fz Dl (.lst av)) H' ∧ Dps M B' av acc ∧ lcGo g tt te (wipeD ρ vs) (ds.drop i) acc R (fun R out => Qd R (.lst out)),
    ⟨ds.length, by omega, Nat.zero_le _, R1, B1, [], [], Ex.refl _, w1.own hD, .nil, q1⟩, ?_⟩
  rintro i m H' ⟨hm, hi, R2, B', av, acc, e2, w2, ha, q2⟩
  by_cases hlt : i < ds.length
  · obtain ⟨d, hd⟩ := get_lt hlt
    have hdr : ds.drop i = d :: ds.drop (i + 1) := by
      rw [List.drop_eq_getElem_cons hlt]
      congr 1
      rw [List.getElem?_eq_getElem hlt] at hd
      exact Option.some.inj hd
    rw [hdr] at q2
    refine .inr ⟨it.go R2 _ B' H' i e2 w2 hlt, fun H3 => ∃ R3 B3 av3 acc3, Ex B1 B3 ∧ Wd R3 B3 (upd Fz Dl (.lst av3)) H3 ∧ Dps M B3 av3 acc3 ∧ lcGo g tt te (wipeD ρ vs) (ds.drop (i + 1)) acc3 R3 (fun R out => Qd R (.lst out)),
      fun H3 ⟨R3, B3, av3, acc3, z1, z2, z3, z4⟩ => ⟨ds.length - (i + 1), by omega, rfl, hlt, R3, B3, av3, acc3, z1, z2, z3, z4⟩, fun v H3 hy => ?_⟩
    obtain ⟨d', B3, hd', e3, w3, hv⟩ := it.yld R2 _ B' H' i v H3 e2 w2 hlt hy
    rw [hd] at hd'
    cases hd'
    refine ⟨B3, wipeD ρ vs, d, _, w3.ex, sl1.mono (e2.trans e3), hv, q2, fun σ2 ρ2 sb sl2 q3 => ⟨wipe_same (sb.mono hj), ?_⟩⟩
    refine ⟨R2, _, B3, ρ2, _, noX, w3, sl2, q3, fun R4 b H4 B4 e4 w4 q4 => ?_, XL.no⟩
    cases b with
    | true =>
      refine ⟨R4, _, B4, ρ2, _, noX, w4, sl2.mono e4, q4, fun R5 y H5 B5 dy e5 w5 hyd ⟨hz, q5⟩ => ?_, XL.no⟩
      have l1 : av.length = acc.length := ha.length
      refine ⟨av, w5.fz _ _ upd_same, by rw [l1]; exact hz, R5, B5, av ++ [y], acc ++ [dy], (((e2.trans e3).trans e4).trans e5), ?_, ((ha.mono ((e3.trans e4).trans e5)).append (.cons hyd .nil)), q5⟩
      have w6 := w5.turn (p := Dl) (o := .lst (av ++ [y])) (u := .lst av) upd_same (fun _ z => by cases z)
      rw [upd_upd] at w6
      exact w6
    | false => exact ⟨R4, B4, av, acc, ((e2.trans e3).trans e4), w4, ha.mono (e3.trans e4), q4⟩
  · refine .inl ⟨it.stop R2 _ B' H' i e2 w2 (by omega), ?_⟩
    have hdr : ds.drop i = [] := List.drop_eq_nil_of_le (by omega)
    rw [hdr] at q2
    have w3 := w2.give (p := Dl) (o := .lst av) upd_same (fun _ z => by cases z)
    have hF : cutH (upd Fz Dl (.lst av)) Dl = Fz := by
      funext z
      by_cases hz : z = Dl
      · subst hz; rw [cutH_same]; exact (w1.fz.free hD).symm
      · rw [cutH_ne hz, upd_ne hz]
    rw [hF] at w3
    have hB : B' Dl = none := w2.dis _ _ upd_same
    exact k R2 _ _ _ _ (e1.trans (e2.trans (Ex.new hB))) w3 (.lst upd_same (ha.mono (Ex.new hB))) q2
theorem _root_.L2.PTs.imp {X : Cx} {e : List Expr} {t t' : TT} (h : PTs X e t) (f : ∀ σ H Q, t' σ H Q → t σ H Q) : PTs X e t' := ⟨fun pins s σ H Q I q => h.run pins s σ H Q I (f σ H Q q)⟩
def dYes : DB := fun R _ Q _ => Q R true
theorem dts_nil : PTs X [] (liftB X.md W dYes) := pts_nil.imp fun σ H Q ⟨R, Fz, B, ρ, Qd, E, w, sl, q, k, x⟩ => k R true H B (Ex.refl B) w q
theorem dts_one (h : DTt X W a tA) : PTs X [a] (liftB X.md W tA) := pts_one h
theorem de_lc {iter elt : Expr} {ifs : List Expr} {scope : Scope} {own : List (Str × Nat)} {ti : DI} {tt : DB} {te : DT} (hc : X.calm = true) (hN : X.N.Nodup) (hi : DIt X W tg iter ti) (ok : BlkOk X.N X.env.scope scope own)
    (hg : ∀ (s : Shared) (H : Hp) (C : Addr) (cl : List (Str × Addr)) (fp : List Addr), DGt (X.blk s H scope (compEnvC scope cl C X.env) fp) js tg g)
    (ht : ∀ (s : Shared) (H : Hp) (C : Addr) (cl : List (Str × Addr)) (fp : List Addr), PTs (X.blk s H scope (compEnvC scope cl C X.env) fp) ifs (liftB X.md W0 tt))
    (he : ∀ (s : Shared) (H : Hp) (C : Addr) (cl : List (Str × Addr)) (fp : List Addr), DE (X.blk s H scope (compEnvC scope cl C X.env) fp) W0 elt te) (hj : ∀ i ∈ js, i ∈ own.map (·.2) := by decide) (hs : ∀ x, foldedSetIterable iter X.env x = pure x := by intro _; rfl) :
    DE X W (.ListComp elt [⟨tg, iter, ifs, 0⟩] scope pos) (dLc ti g tt te (own.map (·.2))) :=
  (pe_lc hc hN hi ok hg ht he hs).imp fun _ _ _ h => lc_lift hj h
end
end DL

set_option Elab.async false
set_option linter.all false
set_option maxRecDepth 100000
set_option maxHeartbeats 400000
namespace DL
open PySem L2

/-! ### statements -/
structure DEnds where
  nx : Res → Env → Prop
  rt : DQ
  bk : Res → Env → Prop := fun _ _ => False
  ct : Res → Env → Prop := fun _ _ => False
  ex : Res → Str → List (Str × D) → Env → Prop := fun _ _ _ _ => False
abbrev DSt := Res → DEnds → Env → Prop
/-- what an object of one's own holds -/
def OwnRep (M : Md) (B : Hp) (o : HO) : D → Prop
  | .lst ds => ∃ vs, o = .lst vs ∧ Dps M B vs ds
  | .dct ds => ∃ vs, o = .dK vs ∧ Dpk M B vs ds
  | .obj c fs => ∃ C dx vs, M.mg c = some (.ref C) ∧ o = .ins C dx vs ∧ Dpf M B vs fs
  | _ => False
theorem OwnRep.mono {M : Md} {B B' : Hp} {o : HO} {d : D} (e : Ex B B') (h : OwnRep M B o d) : OwnRep M B' o d := by
  cases d <;> first | exact h.elim | skip
  · obtain ⟨vs, h1, h2⟩ := h; exact ⟨vs, h1, h2.mono e⟩
  · obtain ⟨vs, h1, h2⟩ := h; exact ⟨vs, h1, h2.mono e⟩
  · obtain ⟨C, dx, vs, h0, h1, h2⟩ := h; exact ⟨C, dx, vs, h0, h1, h2.mono e⟩
theorem Dp.notOwn {M : Md} {B : Hp} {v : V} {d : D} (h : Dp M B v d) : d.isOwn = false := by cases h <;> rfl
structure SR (M : Md) (R : Res) (F0 B Fz H : Hp) (σ : L2.St) (ρ : Env) : Prop where
  wd : Wd R B Fz H
  sl : Slots M B σ ρ
  f0 : Ex F0 Fz
  s0 : ∃ o, F0 sysModules = some (sysO o)
  own : ∀ (i : Nat) (d : D), ρ[i]? = some (some (.own d)) → ∃ a o, σ[i]? = some (some (.ref a)) ∧ F0 a = none ∧ Fz a = some o ∧ OwnRep M B o d
  inj : ∀ (i j : Nat) (d e : D) (a : Addr), ρ[i]? = some (some (.own d)) → ρ[j]? = some (some (.own e)) → σ[i]? = some (some (.ref a)) → σ[j]? = some (some (.ref a)) → i = j
section
variable {M : Md} {R : Res} {F0 B Fz H B' H' : Hp} {σ : L2.St} {ρ : Env}
theorem SR.grow {R' : Res} (s : SR M R F0 B Fz H σ ρ) (e : Ex B B') (w : Wd R' B' Fz H') : SR M R' F0 B' Fz H' σ ρ :=
  ⟨w, s.sl.mono e, s.f0, s.s0, fun i d h => let ⟨a, o, h1, h2, h3, h4⟩ := s.own i d h; ⟨a, o, h1, h2, h3, h4.mono e⟩, s.inj⟩
theorem set_own {i j : Nat} {d : D} {x : Option D} (hx : ∀ y, x = some y → y.isOwn = false) (h : (ρ.set i x)[j]? = some (some (.own d))) : i ≠ j ∧ ρ[j]? = some (some (.own d)) := by
  by_cases q : i = j
  · subst q
    have hl : i < ρ.length := by
      have := (List.getElem?_eq_some_iff.mp h).1
      rw [List.length_set] at this; exact this
    rw [List.getElem?_set_self hl] at h
    have h' : x = some (.own d) := Option.some.inj h
    have := hx _ h'
    cases this
  · rw [List.getElem?_set_ne q] at h
    exact ⟨q, h⟩
theorem SR.set {i : Nat} {v : V} {d : D} (s : SR M R F0 B Fz H σ ρ) (h : Dp M B v d) : SR M R F0 B Fz H (σ.set i (some v)) (ρ.set i (some d)) where
  wd := s.wd
  sl := s.sl.set h
  f0 := s.f0
  s0 := s.s0
  own := fun j x e => by
    obtain ⟨ne, e⟩ := set_own (fun y hy => by cases hy; exact h.notOwn) e
    rw [List.getElem?_set_ne ne]
    exact s.own j x e
  inj := fun j k x y a e1 e2 e3 e4 => by
    obtain ⟨n1, e1⟩ := set_own (fun y hy => by cases hy; exact h.notOwn) e1
    obtain ⟨n2, e2⟩ := set_own (fun y hy => by cases hy; exact h.notOwn) e2
    rw [List.getElem?_set_ne n1] at e3
    rw [List.getElem?_set_ne n2] at e4
    exact s.inj j k x y a e1 e2 e3 e4
/-- slots that change by a target -/
theorem SR.same {js : List Nat} {σ' : L2.St} {ρ' : Env} (s : SR M R F0 B Fz H σ ρ) (sb : SameBut js σ σ') (sl : Slots M B σ' ρ') (ho : ∀ (i : Nat) (d : D), ρ'[i]? = some (some (.own d)) → i ∉ js ∧ ρ[i]? = some (some (.own d))) : SR M R F0 B Fz H σ' ρ' where
  wd := s.wd
  sl := sl
  f0 := s.f0
  s0 := s.s0
  own := fun j x e => by
    obtain ⟨n, e⟩ := ho j x e
    rw [sb.2 j n]
    exact s.own j x e
  inj := fun j k x y a e1 e2 e3 e4 => by
    obtain ⟨n1, e1⟩ := ho j x e1
    obtain ⟨n2, e2⟩ := ho k y e2
    rw [sb.2 j n1] at e3
    rw [sb.2 k n2] at e4
    exact s.inj j k x y a e1 e2 e3 e4
end
structure EL (M : Md) (W : WX) (F0 B : Hp) (De : DEnds) (En : Ends) : Prop where
  nx : ∀ (R : Res) (σ' : L2.St) (ρ' : Env) (B' Fz' H' : Hp), Ex B B' → SR M R F0 B' Fz' H' σ' ρ' → De.nx R ρ' → En.nx σ' H'
  rt : ∀ (R : Res) (v : V) (d : D) (B' H' : Hp), Ex B B' → Wd R B' F0 H' → Dp M B' v d → De.rt R d → En.rt v H'
  bk : ∀ (R : Res) (σ' : L2.St) (ρ' : Env) (B' Fz' H' : Hp), Ex B B' → SR M R F0 B' Fz' H' σ' ρ' → De.bk R ρ' → En.bk σ' H'
  ct : ∀ (R : Res) (σ' : L2.St) (ρ' : Env) (B' Fz' H' : Hp), Ex B B' → SR M R F0 B' Fz' H' σ' ρ' → De.ct R ρ' → En.ct σ' H'
  ex : ∀ (R : Res) (c : Str) (C dd : Addr) (H' B' Fz' : Hp) (vs : List (Str × V)) (fs : List (Str × D)) (σ' : L2.St) (ρ' : Env), M.mg c = some (.ref C) → Ex B B' → SR M R F0 B' Fz' H' σ' ρ' → B' dd = some (.xd vs) → Dpf M B' vs fs → De.ex R c fs ρ' → W (.ref C) (some dd) σ' H'
theorem EL.mono {M : Md} {W : WX} {F0 B B1 : Hp} {De : DEnds} {En : Ends} (x : EL M W F0 B De En) (e : Ex B B1) : EL M W F0 B1 De En :=
  ⟨fun R σ' ρ' B' Fz' H' q => x.nx R σ' ρ' B' Fz' H' (e.trans q), fun R v d B' H' q => x.rt R v d B' H' (e.trans q), fun R σ' ρ' B' Fz' H' q => x.bk R σ' ρ' B' Fz' H' (e.trans q), fun R σ' ρ' B' Fz' H' q => x.ct R σ' ρ' B' Fz' H' (e.trans q),
    fun R c C dd H' B' Fz' vs fs σ' ρ' m q => x.ex R c C dd H' B' Fz' vs fs σ' ρ' m (e.trans q)⟩
/-- an expression's exception at the statement -/
theorem EL.xl {M : Md} {W : WX} {R : Res} {F0 B Fz H : Hp} {De : DEnds} {En : Ends} {σ : L2.St} {ρ : Env} (x : EL M W F0 B De En) (s : SR M R F0 B Fz H σ ρ) : XL M W B Fz σ (fun R c fs => De.ex R c fs ρ) :=
  fun R c C dd H' B' vs fs m e w hd hf he => x.ex R c C dd H' B' Fz vs fs σ ρ m e (s.grow e w) hd hf he
def liftS (M : Md) (W : WX) (t : DSt) : TS := fun En σ H => ∃ (R : Res) (F0 B Fz : Hp) (ρ : Env) (De : DEnds), SR M R F0 B Fz H σ ρ ∧ t R De ρ ∧ EL M W F0 B De En
abbrev DS (X : Cx) (W : WX) (st : Stmt) (t : DSt) : Prop := PS X st (liftS X.md W t)
abbrev DSs (X : Cx) (W : WX) (st : List Stmt) (t : DSt) : Prop := PSs X st (liftS X.md W t)
section
variable {X : Cx} {W : WX} {a b c e e2 tg : Expr} {es rest : List Expr} {ta tb tc t : DT} {tA tB' : DB} {tr : DA} {pos : Pos} {js : List Nat} {g : DG} {gl : DGl} {st : Stmt} {sts sts2 : List Stmt} {ts tu : DSt}
def dSeq (t u : DSt) : DSt := fun R De ρ => t R { De with nx := fun R ρ => u R De ρ } ρ
def dNext : DSt := fun R De ρ => De.nx R ρ
theorem dss_nil : DSs X W [] dNext := pss_nil.imp fun En σ H ⟨R, F0, B, Fz, ρ, De, s, q, x⟩ => x.nx R σ ρ B Fz H (Ex.refl B) s q
theorem dss_cons (h1 : DS X W st ts) (h2 : DSs X W sts tu) : DSs X W (st :: sts) (dSeq ts tu) := (pss_cons h1 h2).imp fun En σ H ⟨R, F0, B, Fz, ρ, De, s, q, x⟩ =>
  ⟨R, F0, B, Fz, ρ, _, s, q, ⟨fun R σ' ρ' B' Fz' H' e s' q' => ⟨R, F0, B', Fz', ρ', De, s', q', x.mono e⟩, x.rt, x.bk, x.ct, x.ex⟩⟩
theorem dss_one (h1 : DS X W st ts) : DSs X W [st] ts := (pss_one h1).imp fun _ _ _ h => h
def dRet (t : DT) : DSt := fun R De ρ => t R ρ De.rt (fun R c fs => De.ex R c fs ρ)
theorem ds_ret (he : DE X W e t) : DS X W (.Return (some e) pos) (dRet t) := (ps_ret he).imp fun En σ H ⟨R, F0, B, Fz, ρ, De, s, q, x⟩ =>
  ⟨R, Fz, B, ρ, _, _, s.wd, s.sl, q, fun R v H' B' d e w h q1 => x.rt R v d B' H' e (w.less s.f0 s.s0) h q1, x.xl s⟩
def dRetN : DSt := fun R De _ => De.rt R .non
theorem ds_retN : DS X W (.Return none pos) dRetN := ps_retN.imp fun En σ H ⟨R, F0, B, Fz, ρ, De, s, q, x⟩ => x.rt R .non .non B H (Ex.refl B) (s.wd.less s.f0 s.s0) .non q
theorem ds_pass : DS X W (.Pass pos) dNext := ps_pass.imp fun En σ H ⟨R, F0, B, Fz, ρ, De, s, q, x⟩ => x.nx R σ ρ B Fz H (Ex.refl B) s q
def dNever : DSt := fun _ _ _ => False
theorem ds_never : DS X W st dNever := ⟨fun pins s σ H En I ⟨_, _, _, _, _, _, _, q, _⟩ => q.elim⟩
/-- name = e -/
def dSet (i : Nat) (t : DT) : DSt := fun R De ρ => t R ρ (fun R d => De.nx R (ρ.set i (some d))) (fun R c fs => De.ex R c fs ρ)
theorem set_lift {M : Md} {i : Nat} {En : Ends} {σ : L2.St} {H : Hp} (h : liftS M W (dSet i t) En σ H) : tAsg (lift M W t) (gName i) En σ H := by
  obtain ⟨R, F0, B, Fz, ρ, De, s, q, x⟩ := h
  exact ⟨R, Fz, B, ρ, _, _, s.wd, s.sl, q, fun R v H' B' d e w h q1 => x.nx R _ _ B' Fz H' e ((s.grow e w).set h) q1, x.xl s⟩
theorem ds_set {i : Nat} {x : Str} {pos' : Pos} (hN : X.N.Nodup) (hi : X.N[i]? = some x) (hx : Loc X.env.scope x) (he : DE X W e t) (hs : swapsWith e (some (.Name x pos')) pos.line X.env = pure false := by rfl)
    (hf : X.fn x = true ∨ X.env.scope.names.lookup x = some .local := by first | exact .inl rfl | exact .inr rfl | assumption) : DS X W (.Assign [.Name x pos'] e pos) (dSet i t) := (ps_set hN hi hx he hs hf).imp fun _ _ _ h => set_lift h
/-- name = [.. for ..], on one line -/
theorem ds_setLc {i : Nat} {y : Str} {py : Pos} {iter elt : Expr} {ifs : List Expr} {scope : Scope} {own : List (Str × Nat)} {spos : Pos} {ti : DI} {tt : DB} {te : DT} (hc : X.calm = true) (hN : X.N.Nodup) (hy : X.N[i]? = some y) (hyl : X.env.scope.names.lookup y = some .local)
    (hsw : swapsWith (.ListComp elt [⟨tg, iter, ifs, 0⟩] scope pos) (some (.Name y py)) spos.line X.env = pure true) (hi : DIt X W tg iter ti) (ok : BlkOk X.N X.env.scope scope own)
    (hg : ∀ (s : Shared) (H : Hp) (C : Addr) (cl : List (Str × Addr)) (fp : List Addr), DGt (X.blk s H scope (compEnvC scope cl C X.env) fp) js tg g)
    (ht : ∀ (s : Shared) (H : Hp) (C : Addr) (cl : List (Str × Addr)) (fp : List Addr), PTs (X.blk s H scope (compEnvC scope cl C X.env) fp) ifs (liftB X.md W0 tt))
    (he : ∀ (s : Shared) (H : Hp) (C : Addr) (cl : List (Str × Addr)) (fp : List Addr), DE (X.blk s H scope (compEnvC scope cl C X.env) fp) W0 elt te) (hj : ∀ i ∈ js, i ∈ own.map (·.2) := by decide) (hs : ∀ x, foldedSetIterable iter X.env x = pure x := by intro _; rfl) :
    DS X W (.Assign [.Name y py] (.ListComp elt [⟨tg, iter, ifs, 0⟩] scope pos) spos) (dSet i (dLc ti g tt te (own.map (·.2)))) :=
  (ps_setLc hc hN hy hyl hsw hi ok hg ht he hs).imp fun En σ H ⟨R, F0, B, Fz, ρ, De, s, q, x⟩ =>
    lc_lift hj ⟨R, Fz, B, ρ, _, _, s.wd, s.sl, q, fun R v H' B' d e w h q1 => x.nx R _ _ B' Fz H' e ((s.grow e w).set h) q1, x.xl s⟩
/-- a, b = e: a tuple's things to names -/
def dAsg (t : DT) (g : DG) : DSt := fun R De ρ => t R ρ (fun R d => g d ρ fun ρ' => De.nx R ρ') (fun R c fs => De.ex R c fs ρ)
/-- a target of names keeps what is owned apart from its slots -/
def OwnFree (js : List Nat) (g : DG) : Prop := ∀ d ρ Q, g d ρ Q → g d ρ fun ρ' => Q ρ' ∧ ∀ (i : Nat) (x : D), ρ'[i]? = some (some (.own x)) → i ∉ js ∧ ρ[i]? = some (some (.own x))
theorem ds_asg (he : DE X W e t) (hg : DGt X js tg g) (hof : ∀ M B v d, Dp M B v d → ∀ ρ Q, g d ρ Q → g d ρ fun ρ' => Q ρ' ∧ ∀ (i : Nat) (x : D), ρ'[i]? = some (some (.own x)) → i ∉ js ∧ ρ[i]? = some (some (.own x)))
    (hs : swapsWithSole [tg] e pos.line X.env = pure false := by rfl) (hw : swappedStores [tg] e X.env = pure none := by rfl) (h1 : (assignEach [tg] X.env).map (·.2) = [assign tg X.env] := by rfl) : DS X W (.Assign [tg] e pos) (dAsg t g) :=
  (ps_asg he hg hs hw h1).imp fun En σ H ⟨R, F0, B, Fz, ρ, De, s, q, x⟩ =>
    ⟨R, Fz, B, ρ, _, _, s.wd, s.sl, q, fun R v H' B' d e w h q1 => ⟨B', ρ, d, _, w.ex, s.sl.mono e, h, hof _ _ _ _ h ρ _ q1, fun σ' ρ' sb sl ⟨q2, ho⟩ => x.nx R σ' ρ' B' Fz H' e ((s.grow e w).same sb sl ho) q2⟩, x.xl s⟩
theorem ownN {i : Nat} (hj : i ∈ js) {d : D} {ρ : Env} {Q : Env → Prop} (hd : d.isOwn = false) (hall : ∀ k ∈ js, k = i) (h : gdName i d ρ Q) : gdName i d ρ fun ρ' => Q ρ' ∧ ∀ (k : Nat) (x : D), ρ'[k]? = some (some (.own x)) → k ∉ js ∧ ρ[k]? = some (some (.own x)) :=
  ⟨h, fun k x e => by
    obtain ⟨n, e⟩ := set_own (fun y hy => by cases hy; exact hd) e
    exact ⟨fun m => n (hall k m).symm, e⟩⟩
def dIfS (t : DB) (u v : DSt) : DSt := fun R De ρ => t R ρ (fun R b => if b = true then u R De ρ else v R De ρ) (fun R c fs => De.ex R c fs ρ)
theorem ds_if (hc : DTt X W c tA) (ha : DSs X W sts ts) (hb : DSs X W sts2 tu) : DS X W (.If c sts sts2 pos) (dIfS tA ts tu) := (ps_if hc ha hb).imp fun En σ H ⟨R, F0, B, Fz, ρ, De, s, q, x⟩ =>
  ⟨R, Fz, B, ρ, _, _, s.wd, s.sl, q, fun R b H' B' e w q1 => by
    cases b with
    | true => exact ⟨R, F0, B', Fz, ρ, De, s.grow e w, q1, x.mono e⟩
    | false => exact ⟨R, F0, B', Fz, ρ, De, s.grow e w, q1, x.mono e⟩, x.xl s⟩
def dDrop (t : DT) : DSt := fun R De ρ => t R ρ (fun R _ => De.nx R ρ) (fun R c fs => De.ex R c fs ρ)
theorem ds_expr (he : DE X W e t) (hs : swapsWith e none pos.line X.env = pure false := by rfl) : DS X W (.Expr e pos) (dDrop t) := (ps_expr he hs).imp fun En σ H ⟨R, F0, B, Fz, ρ, De, s, q, x⟩ =>
  ⟨R, Fz, B, ρ, _, _, s.wd, s.sl, q, fun R v H' B' d e w h q1 => x.nx R σ ρ B' Fz H' e (s.grow e w) q1, x.xl s⟩
/-- for -/
def forGo (g : DG) (tb : DSt) (De : DEnds) : List D → Res → Env → Prop
  | [], R, ρ => De.nx R ρ
  | d :: r, R, ρ => g d ρ fun ρ2 => tb R { De with nx := forGo g tb De r, ct := forGo g tb De r, bk := De.nx } ρ2
def dFor (ti : DI) (g : DG) (tb : DSt) : DSt := fun R De ρ => ti R ρ (fun R ds => forGo g tb De ds R ρ) (fun R c fs => De.ex R c fs ρ)
theorem ds_for {iter : Expr} {body : List Stmt} {ti : DI} {tb : DSt} (hp : PassesOwn (model X.prog X.w) X.A X.env X.xe) (hc : X.calm = true) (hi : DIt X W tg iter ti) (hg : DGt X js tg g) (hb : DSs X W body tb)
    (hof : ∀ M B v d, Dp M B v d → ∀ ρ Q, g d ρ Q → g d ρ fun ρ' => Q ρ' ∧ ∀ (i : Nat) (x : D), ρ'[i]? = some (some (.own x)) → i ∉ js ∧ ρ[i]? = some (some (.own x))) (hs : ∀ x, foldedSetIterable iter X.env x = pure x := by intro _; rfl) :
    DS X W (.For tg iter body [] pos) (dFor ti g tb) := (ps_for hp hc hi hg hb hs).imp fun En σ H ⟨R, F0, B, Fz, ρ, De, s, q, x⟩ => by
  refine ⟨R, Fz, B, ρ, _, _, s.wd, s.sl, q, fun R1 J H1 B1 ds e1 w1 it q1 => ?_, x.xl s⟩
  refine ⟨fun i m σ' H' => m = ds.length - i ∧ i ≤ ds.length ∧ ∃ R B' Fz' ρ', Ex B1 B' ∧ SR X.md R F0 B' Fz' H' σ' ρ' ∧ forGo g tb De (ds.drop i) R ρ', ⟨ds.length, by omega, Nat.zero_le _, R1, B1, Fz, ρ, Ex.refl _, s.grow e1 w1, q1⟩, ?_⟩
  rintro i m σ' H' ⟨hm, hi, R2, B', Fz', ρ', e2, s2, q2⟩
  by_cases hlt : i < ds.length
  · obtain ⟨d, hd⟩ := get_lt hlt
    have hdr : ds.drop i = d :: ds.drop (i + 1) := by
      rw [List.drop_eq_getElem_cons hlt]
      congr 1
      rw [List.getElem?_eq_getElem hlt] at hd
      exact Option.some.inj hd
    rw [hdr] at q2
    refine .inr ⟨it.go R2 _ B' H' i e2 s2.wd hlt, fun σ3 H3 => ∃ R3 B3 Fz3 ρ3, Ex B1 B3 ∧ SR X.md R3 F0 B3 Fz3 H3 σ3 ρ3 ∧ forGo g tb De (ds.drop (i + 1)) R3 ρ3,
      fun σ3 H3 ⟨R3, B3, Fz3, ρ3, z1, z2, z3⟩ => ⟨ds.length - (i + 1), by omega, rfl, hlt, R3, B3, Fz3, ρ3, z1, z2, z3⟩, fun v H3 hy => ?_⟩
    obtain ⟨d', B3, hd', e3, w3, hv⟩ := it.yld R2 _ B' H' i v H3 e2 s2.wd hlt hy
    rw [hd] at hd'
    cases hd'
    have s3 := s2.grow e3 w3
    refine ⟨B3, ρ', d, _, w3.ex, s3.sl, hv, hof _ _ _ _ hv ρ' _ q2, fun σ4 ρ4 sb sl4 ⟨q4, ho⟩ => ?_⟩
    refine ⟨R2, F0, B3, Fz', ρ4, _, s3.same sb sl4 ho, q4, ⟨fun R5 σ5 ρ5 B5 Fz5 H5 e5 s5 q5 => ⟨R5, B5, Fz5, ρ5, (e2.trans e3).trans e5, s5, q5⟩, fun R5 v d B5 H5 e5 w5 h5 q5 => x.rt R5 v d B5 H5 (((e1.trans e2).trans e3).trans e5) w5 h5 q5,
      fun R5 σ5 ρ5 B5 Fz5 H5 e5 s5 q5 => x.nx R5 σ5 ρ5 B5 Fz5 H5 (((e1.trans e2).trans e3).trans e5) s5 q5, fun R5 σ5 ρ5 B5 Fz5 H5 e5 s5 q5 => ⟨R5, B5, Fz5, ρ5, (e2.trans e3).trans e5, s5, q5⟩,
      fun R5 c C dd H5 B5 Fz5 vs fs σ5 ρ5 mg e5 s5 hd hf q5 => x.ex R5 c C dd H5 B5 Fz5 vs fs σ5 ρ5 mg (((e1.trans e2).trans e3).trans e5) s5 hd hf q5⟩⟩
  · refine .inl ⟨it.stop R2 _ B' H' i e2 s2.wd (by omega), ?_⟩
    have hdr : ds.drop i = [] := List.drop_eq_nil_of_le (by omega)
    rw [hdr] at q2
    exact x.nx R2 σ' ρ' B' Fz' H' (e1.trans e2) s2 q2
end

/-! ### a def by its body -/
theorem spL_len {M : Md} {sp : DSp} {ps : List Str} (h : ∀ R ds Q E, sp R ds Q E → ds.length = ps.length) : ∀ vs H Q E, spL M sp vs H Q E → vs.length = ps.length := fun vs H Q E ⟨R, Fz, B, ds, Qd, Ed, w, hd, hs, _⟩ => by rw [hd.length]; exact h _ _ _ _ hs
theorem startOwn {n : Nat} {M : Md} {B : Hp} {vs : List V} {ds : List D} (h : Dps M B vs ds) {i : Nat} {d : D} (e : (startD n ds)[i]? = some (some (.own d))) : False := by
  unfold startD at e
  rw [List.getElem?_append] at e
  split at e
  · rw [List.getElem?_map] at e
    cases q : ds[i]? with
    | none => rw [q] at e; cases e
    | some x =>
      rw [q] at e
      cases e
      obtain ⟨v, _, h2⟩ := h.get q
      have := h2.notOwn
      cases this
  · rw [List.getElem?_replicate] at e
    split at e <;> cases e
section
variable {P : Program} {w : World} {K : PySem.W.Frag} {mg : Str → Option Value} {base : Heap}
theorem fn_d {x qual : Str} {st : Stmt} {f : Addr} {fd : FuncData} {N ps : List Str} {k : Nat} {sp : DSp} (F : Fun K x qual st f fd) (S : FnScope N ps (defScope st)) (len : ∀ R ds Q E, sp R ds Q E → ds.length = ps.length)
    (hbody : ∀ (cdv : Value) (A : Around) (outer : List PySem.Env) (s : Shared) (H : Hp) (E : XK), Room k (A.deeper (PyProof.Rows.envOfC qual (defScope st) s.heap.objs.size f cdv)) →
      ∃ t : DSt, DSs (cxOf (L2.CX P w) P w K mg base N qual (defScope st) f cdv A outer s H E) (fun cls d _ H => E cls d H) (defBody st) t ∧
        ∀ R ds Q E, sp R ds Q E → t R { nx := fun R _ => Q R .non, rt := Q, ex := fun R c fs _ => E R c fs } (startD N.length ds)) : FnOk P w K mg base (L2.CX P w) (k + 1) f fd ps (spL ⟨K, mg, w⟩ sp) := by
  refine F.okX S (spL_len len) fun cdv A outer s H vs Q E hr hsp => ?_
  obtain ⟨R, Fz, B, ds, Qd, Ed, wd, hd, hs, k, x⟩ := hsp
  obtain ⟨t, h, q⟩ := hbody cdv A outer s H E hr
  refine ⟨_, h, R, Fz, B, Fz, startD N.length ds, _, ⟨wd, .ofStart hd, Ex.refl _, wd.sys, fun i d e => (startOwn hd e).elim, fun i j d e a e1 => (startOwn hd e1).elim⟩, q R ds Qd Ed hs, ?_⟩
  exact ⟨fun R σ' ρ' B' Fz' H' e s' q' => k R .non H' B' .non e (s'.wd.less s'.f0 s'.s0) .non q', fun R v d B' H' e w' h' q' => k R v H' B' d e w' h' q', fun _ _ _ _ _ _ _ _ q' => q'.elim, fun _ _ _ _ _ _ _ _ q' => q'.elim,
    fun R c C dd H' B' Fz' vs fs σ' ρ' m e s' hd hf q' => x R c C dd H' B' vs fs m e (s'.wd.less s'.f0 s'.s0) hd hf q'⟩
end
end DL

set_option Elab.async false
set_option linter.all false
set_option maxRecDepth 100000
set_option maxHeartbeats 400000
namespace DL
open PySem L2
/-! ### a def of the text that keeps a promise over data -/
def Ok (P : Program) (w : World) (K : PySem.W.Frag) (mg : Str → Option Value) (base : Heap) (k : Nat) (x : Str) (ps : List Str) (sp : DSp) : Prop :=
  ∃ (f : Addr) (fd : FuncData), mg x = some (.ref f) ∧ PySem.W.keepIn K (.ref f) = true ∧ Binds K fd ps [] ∧ FnOk P w K mg base (L2.CX P w) k f fd ps (spL ⟨K, mg, w⟩ sp)
def DefAt (K : PySem.W.Frag) (mg : Str → Option Value) (x : Str) (st : Stmt) : Prop := ∃ (f : Addr) (fd : FuncData), mg x = some (.ref f) ∧ Fun K x x st f fd
theorem hu_room {A : Around} {k : Nat} (hr : Room k A) : A.units + 100 < cLine := by have := hr.un; omega
section
variable {X : Cx} {W : WX} {e : Expr} {es : List Expr} {tr : DA} {pos : Pos}
theorem de_o {k j : Nat} {ps : List Str} {sp : DSp} {x : Str} {p : Pos} (h : Ok X.prog X.w X.K X.mg X.base j x ps sp) (hr : Room k X.A) (hj : j ≤ k) (hg : Gl X x) (tk : Takes X W) (ha : DAs X W (e :: es) tr)
    (hdb : (x == ("__debug__" : Str)) = false := by decide) (he : starEach (e :: es) X.env = (false, eval e X.env) :: starEach es X.env := by rfl) (hpl : (backTo pos (starEach es X.env)).any (·.1) = false := by rfl) :
    DE X W (.Call (.Name x p) (e :: es) [] pos) (dCall sp tr) :=
  let ⟨_, _, hm, hk, hb, F⟩ := h
  de_call F (hr.mono hj) hg hm hk hb tk ha hdb he hpl
end
section
variable {P : Program} {w : World} {K : PySem.W.Frag} {mg : Str → Option Value} {base : Heap}
theorem ok_of {x : Str} {st : Stmt} {N ps : List Str} {k : Nat} {sp : DSp} (F : DefAt K mg x st) (S : FnScope N ps (defScope st)) (len : ∀ R ds Q E, sp R ds Q E → ds.length = ps.length)
    (bnd : ∀ (kV doc pm : Value) (an : Option Addr) (cdv ct : Value) (us : List Value), us.length = ps.length → bindArgs (PySem.W.fnOf x x (defArgs st) (defBody st) (defScope st) .none kV doc pm an cdv ct) ⟨us, []⟩ = pure (ps.zip us))
    (t : DSt) (vc : ∀ R ds Q E, sp R ds Q E → t R { nx := fun R _ => Q R .non, rt := Q, ex := fun R c fs _ => E R c fs } (startD N.length ds))
    (hbody : ∀ (f : Addr) (cdv : Value) (A : Around) (outer : List PySem.Env) (s : Shared) (H : Hp) (E : XK), Room k (A.deeper (PyProof.Rows.envOfC x (defScope st) s.heap.objs.size f cdv)) →
      DSs (cxOf (L2.CX P w) P w K mg base N x (defScope st) f cdv A outer s H E) (fun cls d _ H => E cls d H) (defBody st) t) : Ok P w K mg base (k + 1) x ps sp := by
  obtain ⟨f, fd, hm, F⟩ := F
  exact ⟨f, fd, hm, F.kp, F.binds bnd, fn_d F S len fun cdv A outer s H E hr => ⟨t, hbody f cdv A outer s H E hr, vc⟩⟩
end
end DL

set_option Elab.async false
set_option linter.all false
set_option maxRecDepth 100000
set_option maxHeartbeats 400000
namespace DL
open PySem L2 PySem.Spec PyProof.Rows
/-! ### defs that are called where no repr is under way -/
structure FnG (P : Program) (w : World) (K : PySem.W.Frag) (mg : Str → Option Value) (base : Heap) (CX : CXT) (k : Nat) (f : Addr) (fd : FuncData) (ps : List Str) (sp : Sp) : Prop where
  len : ∀ vs H Q E, sp vs H Q E → vs.length = ps.length
  go : ∀ (A : Around) (fs : List PySem.Env) (s : Shared) (H : Hp) (ar : Args) (us : List Value) (vs : List V) (Q : VK) (E : XK), Room k A → A.guards = some [] → Env0 P w K mg base A fs s H → BindsTo s fd ar (ps.zip us) → Vals vs us → sp vs H Q E →
    codeAny (model P w) A (.call (.ref f) ar) (CR CX fs P w H s Q E) s
theorem _root_.L2.FnOk.g {P : Program} {w : World} {K : PySem.W.Frag} {mg : Str → Option Value} {base : Heap} {CX : CXT} {k : Nat} {f : Addr} {fd : FuncData} {ps : List Str} {sp : Sp} (F : FnOk P w K mg base CX k f fd ps sp) : FnG P w K mg base CX k f fd ps sp :=
  ⟨F.len, fun A fs s H ar us vs Q E hr _ => F.run A fs s H ar us vs Q E hr⟩
section
variable {P : Program} {w : World} {K : PySem.W.Frag} {mg : Str → Option Value} {base : Heap}
theorem fn_g {CX : CXT} {x qual : Str} {st : Stmt} {f : Addr} {fd : FuncData} {N ps : List Str} {k : Nat} {sp : Sp} (F : Fun K x qual st f fd) (S : FnScope N ps (defScope st)) (len : ∀ vs H Q E, sp vs H Q E → vs.length = ps.length)
    (hb : ∀ (cdv : Value) (A : Around) (fs : List PySem.Env) (s : Shared) (H : Hp) (vs : List V) (Q : VK) (E : XK), Room k (A.deeper (PyProof.Rows.envOfC qual (defScope st) s.heap.objs.size f cdv)) → A.guards = some [] → sp vs H Q E →
      ∃ t, PSs (cxOf CX P w K mg base N qual (defScope st) f cdv A fs s H E) (defBody st) t ∧ t { nx := fun _ H' => Q .non H', rt := Q } (L2.start N vs) H) : FnG P w K mg base CX (k + 1) f fd ps sp := by
  obtain ⟨oc, od, kV, doc, pm, an, cdv, ct, osl, rfl, lk, hcd⟩ := F.ex
  constructor
  · exact len
  intro A fs s H ar us vs Q E hr hgd e0 hbd rv hsp
  have kin := e0.mod.kin.keeps fun b o e => (e0.bs b o e).1
  have nol := e0.mod.nolimit.keeps fun b o e => (e0.bs b o e).1
  refine codeAny_call_function hr.depth (kin _ _ lk) rfl S.co S.gen rfl (PySem.W.codeRec_of kin hcd) (hbd _ _ _ _ (wpAny_newFunctionEnv_cells S.kind ?_ ?_))
  · rintro ⟨n, v⟩ hy
    rcases S.par n (List.of_mem_zip hy).1 with q | q
    · exact Or.inl q
    · exact Or.inr ⟨q, PySem.W.cellsFrom_some _ _ _ (Or.inl q)⟩
  · rintro env rfl s1 y
    refine ⟨nol.keeps y.toInCall.keep, codeAny_func ?_⟩
    obtain ⟨t, ht, hq⟩ := hb cdv A fs s H vs Q E (hr.deeper _) hgd hsp
    have J0 := inv_start (CX := CX) (E := E) S hr.hd e0 (len _ _ _ _ hsp) rv y
    refine wpAny_mono (ht.run [] s1 (L2.start N vs) H _ J0 hq) (fun fl s' hs => ?_) fun _ _ z => z
    match fl, hs with
    | .ret u, ⟨v, _, H', J, r, q⟩ => exact ⟨v, H', J.os, J.bare, J.base, J.hok, r, q⟩
    | .next, ⟨_, H', J, q⟩ => exact ⟨.non, H', J.os, J.bare, J.base, J.hok, rfl, q⟩
    | .brk, ⟨_, _, _, q⟩ => exact q.elim
    | .cont, ⟨_, _, _, q⟩ => exact q.elim
theorem fn_gd {x qual : Str} {st : Stmt} {f : Addr} {fd : FuncData} {N ps : List Str} {k : Nat} {sp : DSp} (F : Fun K x qual st f fd) (S : FnScope N ps (defScope st)) (len : ∀ R ds Q E, sp R ds Q E → ds.length = ps.length)
    (hbody : ∀ (cdv : Value) (A : Around) (outer : List PySem.Env) (s : Shared) (H : Hp) (E : XK), Room k (A.deeper (PyProof.Rows.envOfC qual (defScope st) s.heap.objs.size f cdv)) → A.guards = some [] →
      ∃ t : DSt, DSs (cxOf (L2.CX P w) P w K mg base N qual (defScope st) f cdv A outer s H E) (fun cls d _ H => E cls d H) (defBody st) t ∧
        ∀ R ds Q E, sp R ds Q E → t R { nx := fun R _ => Q R .non, rt := Q, ex := fun R c fs _ => E R c fs } (startD N.length ds)) : FnG P w K mg base (L2.CX P w) (k + 1) f fd ps (spL ⟨K, mg, w⟩ sp) := by
  refine fn_g F S (spL_len len) fun cdv A outer s H vs Q E hr hgd hsp => ?_
  obtain ⟨R, Fz, B, ds, Qd, Ed, wd, hd, hs, k, x⟩ := hsp
  obtain ⟨t, h, q⟩ := hbody cdv A outer s H E hr hgd
  refine ⟨_, h, R, Fz, B, Fz, startD N.length ds, _, ⟨wd, .ofStart hd, Ex.refl _, wd.sys, fun i d e => (startOwn hd e).elim, fun i j d e a e1 => (startOwn hd e1).elim⟩, q R ds Qd Ed hs, ?_⟩
  exact ⟨fun R σ' ρ' B' Fz' H' e s' q' => k R .non H' B' .non e (s'.wd.less s'.f0 s'.s0) .non q', fun R v d B' H' e w' h' q' => k R v H' B' d e w' h' q', fun _ _ _ _ _ _ _ _ q' => q'.elim, fun _ _ _ _ _ _ _ _ q' => q'.elim,
    fun R c C dd H' B' Fz' vs fs σ' ρ' m e s' hd hf q' => x R c C dd H' B' vs fs m e (s'.wd.less s'.f0 s'.s0) hd hf q'⟩
def OkG (P : Program) (w : World) (K : PySem.W.Frag) (mg : Str → Option Value) (base : Heap) (k : Nat) (x : Str) (ps : List Str) (sp : DSp) : Prop :=
  ∃ (f : Addr) (fd : FuncData), mg x = some (.ref f) ∧ PySem.W.keepIn K (.ref f) = true ∧ Binds K fd ps [] ∧ FnG P w K mg base (L2.CX P w) k f fd ps (spL ⟨K, mg, w⟩ sp)
theorem Ok.g {k : Nat} {x : Str} {ps : List Str} {sp : DSp} (h : Ok P w K mg base k x ps sp) : OkG P w K mg base k x ps sp := let ⟨f, fd, a, b, c, d⟩ := h; ⟨f, fd, a, b, c, d.g⟩
theorem okg_of {x : Str} {st : Stmt} {N ps : List Str} {k : Nat} {sp : DSp} (F : DefAt K mg x st) (S : FnScope N ps (defScope st)) (len : ∀ R ds Q E, sp R ds Q E → ds.length = ps.length)
    (bnd : ∀ (kV doc pm : Value) (an : Option Addr) (cdv ct : Value) (us : List Value), us.length = ps.length → bindArgs (PySem.W.fnOf x x (defArgs st) (defBody st) (defScope st) .none kV doc pm an cdv ct) ⟨us, []⟩ = pure (ps.zip us))
    (t : DSt) (vc : ∀ R ds Q E, sp R ds Q E → t R { nx := fun R _ => Q R .non, rt := Q, ex := fun R c fs _ => E R c fs } (startD N.length ds))
    (hbody : ∀ (f : Addr) (cdv : Value) (A : Around) (outer : List PySem.Env) (s : Shared) (H : Hp) (E : XK), Room k (A.deeper (PyProof.Rows.envOfC x (defScope st) s.heap.objs.size f cdv)) → A.guards = some [] →
      DSs (cxOf (L2.CX P w) P w K mg base N x (defScope st) f cdv A outer s H E) (fun cls d _ H => E cls d H) (defBody st) t) : OkG P w K mg base (k + 1) x ps sp := by
  obtain ⟨f, fd, hm, F⟩ := F
  exact ⟨f, fd, hm, F.kp, F.binds bnd, fn_gd F S len fun cdv A outer s H E hr hgd => ⟨t, hbody f cdv A outer s H E hr hgd, vc⟩⟩
end
section
variable {X : Cx} {W : WX} {e : Expr} {es : List Expr} {tr : DA} {pos : Pos}
theorem run_g {CX : CXT} {k : Nat} {f : Addr} {fd : FuncData} {ps : List Str} {sp : Sp} {E : L2.St → XK} {pins : List (Addr × Obj)} {σ : L2.St} {H : Hp} {s : Shared} {Q : VK} {us : List Value} {vs : List V} (F : FnG X.prog X.w X.K X.mg X.base CX k f fd ps sp) (hr : Room k X.A)
    (hgd : X.A.guards = some []) (hb : Binds X.K fd ps []) (hx : PassesAt CX X σ (E σ)) (I : Inv X pins σ H s) (r : Vals vs us) (h : sp vs H Q (E σ)) : wpAny (model X.prog X.w) X.A (call (.ref f) us) (EP X pins σ Q) X.xe s := by
  have b := hb s us I.kIn (by rw [List.append_nil, ← r.length]; exact F.len _ _ _ _ h)
  rw [List.append_nil] at b
  refine wpAny_call (codeAny_mono (F.go X.A X.stack s H ⟨us, []⟩ us vs Q (E σ) hr hgd I.env0 b r h) fun z s' hq => ?_)
  match z, hq with
  | .error e, hq => exact hx pins H s e s' I hq
  | .ok (.ret u), hq => exact I.after hq
  | .ok .next, hq => exact hq.elim
  | .ok .brk, hq => exact hq.elim
  | .ok .cont, hq => exact hq.elim
theorem pe_g {CX : CXT} {k : Nat} {f : Addr} {fd : FuncData} {ps : List Str} {sp : Sp} {E : L2.St → XK} {x : Str} {p : Pos} {t : TA} (F : FnG X.prog X.w X.K X.mg X.base CX k f fd ps sp) (hr : Room k X.A) (hgd : X.A.guards = some []) (hg : Gl X x) (hm : X.mg x = some (.ref f))
    (hk : PySem.W.keepIn X.K (.ref f) = true) (hb : Binds X.K fd ps []) (hx : ∀ σ, PassesAt CX X σ (E σ)) (ha : PA X (e :: es) t) (hdb : (x == ("__debug__" : Str)) = false := by decide)
    (he : starEach (e :: es) X.env = (false, eval e X.env) :: starEach es X.env := by rfl) (hpl : (backTo pos (starEach es X.env)).any (·.1) = false := by rfl) : PE X (.Call (.Name x p) (e :: es) [] pos) (tCallS sp E t) :=
  ⟨fun pins s σ H Q I h => wpAny_Call_Name_kw (ld_glob I hg hm (PySem.W.callWith_K (h₀ := X.base) I.ok.mod.kin hk (thn (ha.run pos pins s σ H _ I h) fun us s1 ⟨vs, H1, I1, r, q⟩ => ⟨I1.kIn, run_g F hr hgd hb (hx σ) I1 r q⟩) he hpl) hdb)⟩
theorem de_og {k j : Nat} {ps : List Str} {sp : DSp} {x : Str} {p : Pos} (h : OkG X.prog X.w X.K X.mg X.base j x ps sp) (hr : Room k X.A) (hj : j ≤ k) (hgd : X.A.guards = some []) (hg : Gl X x) (tk : Takes X W) (ha : DAs X W (e :: es) tr)
    (hdb : (x == ("__debug__" : Str)) = false := by decide) (he : starEach (e :: es) X.env = (false, eval e X.env) :: starEach es X.env := by rfl) (hpl : (backTo pos (starEach es X.env)).any (·.1) = false := by rfl) :
    DE X W (.Call (.Name x p) (e :: es) [] pos) (dCall sp tr) :=
  let ⟨_, _, hm, hk, hb, F⟩ := h
  (pe_g F (hr.mono hj) hgd hg hm hk hb (fun σ => passAt tk σ) ha hdb he hpl).imp fun σ H Q ⟨R, Fz, B, ρ, Qd, E, w, sl, q, k, x⟩ =>
    ⟨R, Fz, B, ρ, _, E, w, sl, q, fun R vs H1 B1 ds e1 w1 h1 q1 => ⟨R, Fz, B1, ds, Qd, E, w1, h1, q1, k.mono e1, fun R c C dd H' B' us fs m e2 w2 hd hf he => x R c C dd H' B' us fs m (e1.trans e2) w2 hd hf he⟩, x⟩
end
end DL

set_option Elab.async false
set_option linter.all false
set_option maxRecDepth 100000
set_option maxHeartbeats 400000
namespace DL
open PySem L2 PySem.Spec PyProof.Rows
/-! ### repr -/
mutual
def D.rp : D → Bool
  | .non => true | .bl _ => true | .int i => decide (i.natAbs.log2 < 1920) | .str _ => true
  | .tup ds => D.rps ds | .lst ds => D.rps ds | .dct kvs => kvs.isEmpty
  | .frl _ => false | .tpw _ => false | .obj _ _ => false | .exc _ _ => false | .cls _ => false | .ref _ => false | .ty _ => false | .own _ => false | .dtt _ => false | .xcg _ _ _ _ => false | .clo _ _ => false
def D.rps : List D → Bool
  | [] => true | d :: r => d.rp && D.rps r
end
mutual
theorem rp_show : ∀ d : D, d.rp = true → d.py.showable = true
  | .non, _ => rfl
  | .bl _, _ => rfl
  | .int _, h => h
  | .str _, _ => rfl
  | .tup ds, h => rps_show ds h
  | .lst ds, h => rps_show ds h
  | .dct kvs, h => by
    cases kvs with
    | nil => rfl
    | cons _ _ => cases h
  | .frl _, h => nomatch h
  | .tpw _, h => nomatch h
  | .obj _ _, h => nomatch h
  | .exc _ _, h => nomatch h
  | .cls _, h => nomatch h
  | .ref _, h => nomatch h
  | .ty _, h => nomatch h
  | .own _, h => nomatch h
  | .dtt _, h => nomatch h
  | .xcg _ _ _ _, h => nomatch h
  | .clo _ _, h => nomatch h
theorem rps_show : ∀ ds : List D, D.rps ds = true → PyData.showableAll (D.pys ds) = true
  | [], _ => rfl
  | d :: r, h => by
    have q := Bool.and_eq_true_iff.mp h
    exact Bool.and_eq_true_iff.mpr ⟨rp_show d q.1, rps_show r q.2⟩
end
section
variable {X : Cx} {pins : List (Addr × Obj)} {σ : L2.St} {R : Res} {H B Fz : Hp} {s : Shared}
mutual
theorem reads_d (I : Inv X pins σ H s) (w : Wd R B Fz H) : ∀ (d : D) (v : V) (u : Value), Dp X.md B v d → d.rp = true → RelV v u → ∃ as, Reads s.heap u d.py as ∧ sysModules ∉ as
  | .non, _, _, h, _, r => by cases h; cases r; exact ⟨_, .none, by simp⟩
  | .bl b, _, _, h, _, r => by cases h; cases r; exact ⟨_, .bool b, by simp⟩
  | .int i, _, _, h, _, r => by cases h; obtain ⟨t, rfl⟩ := r; exact ⟨_, .int i t, by simp⟩
  | .str x, _, _, h, _, r => by cases h; obtain ⟨t, rfl⟩ := r; exact ⟨_, .str x t, by simp⟩
  | .tup ds, _, _, h, p, r => by
    cases h with
    | tup hs ha =>
      cases r
      obtain ⟨its, rv, ⟨o, ho, hc, n, hd⟩, _⟩ := I.tuple (w.ex.st hs.st)
      obtain ⟨as, hr, hn⟩ := reads_ds I w ds _ its ha p rv
      exact ⟨_, Reads.tuple ho hc hd hr, hn⟩
  | .lst ds, _, _, h, p, r => by
    cases h with
    | @lst a _ _ hs ha =>
      cases r
      obtain ⟨its, rv, ⟨o, n, ho, hc, _, hd⟩, _⟩ := I.list (SqL.of (w.ex _ _ hs))
      obtain ⟨as, hr, hn⟩ := reads_ds I w ds _ its ha p rv
      refine ⟨_, Reads.list ho hc hd hr, ?_⟩
      rw [List.mem_cons]
      rintro (e | e)
      · obtain ⟨_, z⟩ := w.sys; rw [← e, w.dis _ _ z] at hs; cases hs
      · exact hn e
  | .dct kvs, _, _, h, p, r => by
    cases kvs with
    | cons _ _ => cases p
    | nil =>
      cases h with
      | @dct a ks _ hs ha =>
        cases ha
        cases r
        obtain ⟨_, hsm, vs, hv, o, es, ep, ho, ⟨hc, _⟩, hd, _, hp, _⟩ := I.hok _ _ (w.ex _ _ hs)
        cases hv
        have he : es.toList = [] := by cases q : es.toList with
          | nil => rfl
          | cons _ _ => rw [q] at hp; cases hp
        refine ⟨_, Reads.dict (kvs := []) (as := []) (bs := []) ho hc hd (by rw [he]; exact .nil) (by rw [he]; exact .nil), ?_⟩
        intro m
        have e : sysModules = a := by simpa using m
        rw [← e] at hsm
        simp at hsm
  | .frl _, _, _, _, p, _ => nomatch p
  | .tpw _, _, _, _, p, _ => nomatch p
  | .obj _ _, _, _, _, p, _ => nomatch p
  | .exc _ _, _, _, _, p, _ => nomatch p
  | .cls _, _, _, _, p, _ => nomatch p
  | .ref _, _, _, _, p, _ => nomatch p
  | .ty _, _, _, _, p, _ => nomatch p
  | .own _, _, _, _, p, _ => nomatch p
  | .dtt _, _, _, _, p, _ => nomatch p
  | .xcg _ _ _ _, _, _, _, p, _ => nomatch p
  | .clo _ _, _, _, _, p, _ => nomatch p
theorem reads_ds (I : Inv X pins σ H s) (w : Wd R B Fz H) : ∀ (ds : List D) (vs : List V) (us : List Value), Dps X.md B vs ds → D.rps ds = true → Vals vs us → ∃ as, ReadsAll s.heap us (D.pys ds) as ∧ sysModules ∉ as
  | [], _, _, h, _, r => by cases h; cases r; exact ⟨_, .nil, by simp⟩
  | d :: ds, _, _, h, p, r => by
    cases h with
    | cons h1 h2 =>
      cases r with
      | cons r1 r2 =>
        have q := Bool.and_eq_true_iff.mp p
        obtain ⟨as, q1, n1⟩ := reads_d I w d _ _ h1 q.1 r1
        obtain ⟨bs, q2, n2⟩ := reads_ds I w ds _ _ h2 q.2 r2
        exact ⟨_, ReadsAll.cons q1 q2, by rw [List.mem_append]; exact fun z => z.elim n1 n2⟩
end
end
def fRepr : FC
  | [d], Q => d.rp = true ∧ d.py.depth ≤ 64 ∧ d.py.shown.length ≤ sizeLine ∧ Q (.str d.py.shown)
  | _, _ => False
section
variable {X : Cx} {W : WX} {a b c e e2 tg : Expr} {es rest : List Expr} {ta tb tc t : DT} {tA tB' : DB} {tr : DA} {pos : Pos} {js : List Nat} {g : DG} {gl : DGl}
theorem call_reprD (hgd : X.A.guards = some []) (hu : X.A.units + 100 < cLine) : CallR X (.builtin "repr") (rcOf X.md fRepr) := by
  rintro pins s σ H xs us Q I r ⟨R, Fz, B, ds, Qd, w, h, hf, k⟩
  unfold fRepr at hf
  split at hf
  · rename_i d
    obtain ⟨hp, hd, hz, hf⟩ := hf
    cases h with
    | cons h t => cases t; cases r with
      | cons r rt => cases rt
                     have hfin : ∀ (h' : Heap) (tk : Nat), (∀ b o, s.heap.get? b = some o → h'.get? b = some o) → ∀ t, EP X pins σ Q (.str d.py.shown t) { s with heap := h', toks := tk } :=
                       fun h' tk kp t => ⟨.str _, H, I.kept kp, ⟨t, rfl⟩, k _ H B _ (Ex.refl B) w (.str _) hf⟩
                     obtain ⟨as, rd, hn⟩ := reads_d I w d _ _ h hp r
                     cases h with
                     | non => cases r; exact PySem.P.repr_of_none (hfin s.heap _ (fun _ _ e => e) _)
                     | bl b => cases r; exact PySem.P.repr_of_bool (by have := hfin s.heap (s.toks + 1) (fun _ _ e => e) s.toks; cases b <;> exact this)
                     | int i => obtain ⟨t, rfl⟩ := r; exact PySem.P.repr_of_int (of_decide_eq_true hp) (hfin s.heap _ (fun _ _ e => e) _)
                     | str x => obtain ⟨t, rfl⟩ := r; exact PySem.P.repr_of_str (hfin s.heap _ (fun _ _ e => e) _) hz
                     | tup | lst | dct => cases r; exact repr_of_reads' rd (rp_show _ hp) (fun _ => hn) hgd (by omega) (fun _ _ e => e) (fun h' u tk kp => hfin h' tk kp u) hz
                     | ty | ref | frl | tpw | obj | exc | cls | dtt | xcg | clo => cases hp
  · exact hf.elim
theorem de_repr {p : Pos} (hgd : X.A.guards = some []) (hu : X.A.units + 100 < cLine) (hg : Gl X "repr") (hm : X.mg "repr" = none) (ha : DAs X W [e] tr) (he : starEach [e] X.env = (false, eval e X.env) :: starEach [] X.env := by rfl) : DE X W (.Call (.Name "repr" p) [e] [] pos) (dCB fRepr tr) :=
  de_callB (call_reprD hgd hu) rcOf_ok hg hm (by decide +kernel) ha (he := he)

/-! ### sorted -/
theorem each_of {α β : Type} {R : α → β → Prop} {M : Md} {B : Hp} : ∀ {vs : List V} {ds : List D} {us : List Value} {P : Value → D → Prop}, Dps M B vs ds → Vals vs us → (∀ v d u, Dp M B v d → RelV v u → d ∈ ds → P u d) → PySem.W.EachIs P us ds
  | _, _, _, _, .nil, .nil, _ => .nil
  | _, _, _, _, .cons h t, .cons r rs, f => .cons (f _ _ _ h r (List.mem_cons_self ..)) (each_of (R := R) t rs fun v d u h r m => f v d u h r (List.mem_cons_of_mem _ m))
theorem of_each {M : Md} {B : Hp} : ∀ {us : List Value} {ds : List D}, PySem.W.EachIs (fun u d => ∃ v, RelV v u ∧ Dp M B v d) us ds → ∃ vs, Vals vs us ∧ Dps M B vs ds
  | _, _, .nil => ⟨[], .nil, .nil⟩
  | _, _, .cons ⟨v, r, h⟩ t => let ⟨vs, r2, h2⟩ := of_each t; ⟨v :: vs, .cons r r2, .cons h h2⟩
def sortD (ds : List D) : List D := ds.mergeSort (PySem.W.dataLe false D.py)
def fSorted : FC
  | [.lst ds], Q => (∀ d ∈ ds, d.pure = true ∧ d.py.depth ≤ 64) ∧ PySem.W.AllAlike (ds.map D.py) ∧ PySem.W.Sortable (ds.map D.py) ∧ Q (.lst (sortD ds))
  | _, _ => False
theorem call_sortedD (hu : X.A.units + 100 < cLine) : CallR X (.builtin "sorted") (rcOf X.md fSorted) := by
  rintro pins s σ H xs us Q I r ⟨R, Fz, B, ds, Qd, w, h, hf, k⟩
  unfold fSorted at hf
  split at hf
  · rename_i ds
    obtain ⟨hp, hal, hk, hf⟩ := hf
    cases h with
    | cons h t => cases t; cases r with
      | cons r rt => cases rt; cases h with
        | lst hs ha =>
          cases r
          obtain ⟨its, rv, ⟨o, n, ho, hc, _, hd⟩, hz⟩ := I.list (SqL.of (w.ex _ _ hs))
          refine PySem.W.sorted_data (R := fun u d => ∃ v, RelV v u ∧ Dp X.md B v d) (bs := ds) (enc := D.py) (vs := its) ⟨o, ho, hc, n, hd⟩ (each_of (R := fun (_ : Unit) (_ : Unit) => True) ha rv fun v d u h1 h2 _ => ⟨v, h2, h1⟩)
            (each_of (R := fun (_ : Unit) (_ : Unit) => True) ha rv fun v d u h1 h2 m => L2.Dp.reads I d.py v u (dp2_mono w.ex (h1.py (hp d m).1)) h2) hal hk (by rw [← ha.length]; exact hz)
            (fun d m => by have := (hp d m).2; omega) fun out hl he => ?_
          obtain ⟨vs', r', h'⟩ := of_each he
          obtain ⟨c, hc'⟩ := sortedAll_at s.heap its out.toArray
          have hf' : H (s.heap.objs.size + 1) = none := I.hok.fresh (Nat.le_succ _)
          refine ⟨.ref (s.heap.objs.size + 1), upd H (s.heap.objs.size + 1) (.lst vs'), I.laid (t' := s.toks) (fun _ _ => sortedAll_old) (Nat.le_succ _) ⟨?_, out, c, r', hc'⟩, rfl, k _ _ _ _ (Ex.new (w.free hf')) (w.new hf') (.lst upd_same (h'.mono (Ex.new (w.free hf')))) hf⟩
          rw [r'.length, hl, ← ha.length]; exact hz
  · exact hf.elim
theorem de_sorted {p : Pos} (hu : X.A.units + 100 < cLine) (hg : Gl X "sorted") (hm : X.mg "sorted" = none) (ha : DAs X W [e] tr) (he : starEach [e] X.env = (false, eval e X.env) :: starEach [] X.env := by rfl) : DE X W (.Call (.Name "sorted" p) [e] [] pos) (dCB fSorted tr) :=
  de_callB (call_sortedD hu) rcOf_ok hg hm (by decide +kernel) ha (he := he)

/-! ### x < y of tuples, lists -/
def fLtD : F2
  | .int i, .int j, Q => Q (.bl (decide (i < j)))
  | .str x, .str y, Q => Q (.bl (decide (x.cps.toList < y.cps.toList)))
  | .tup x, .tup y, Q => D.pure (.tup x) = true ∧ D.pure (.tup y) = true ∧ PySem.W.alike (D.py (.tup x)) (D.py (.tup y)) = true ∧ (D.py (.tup x)).depth ≤ 64 ∧ Q (.bl (PySem.W.dataLt (D.py (.tup x)) (D.py (.tup y))))
  | _, _, _ => False
theorem opLtD (hu : X.A.units + 100 < cLine) : OpR X (compareOp .Lt) (rOf X.md fLtD) := by
  rintro pins s σ H x y v u Q I rx ry ⟨R, Fz, B, dx, dy, Qd, w, hx, hy, h, k⟩
  unfold fLtD at h
  split at h
  · cases hx; cases hy
    exact op_lt pins s σ H _ _ v u Q I rx ry ⟨_, _, rfl, rfl, k _ H B _ (Ex.refl B) w (.bl _) h⟩
  · cases hx; cases hy
    exact op_lt_str pins s σ H _ _ v u Q I rx ry ⟨_, _, rfl, rfl, k _ H B _ (Ex.refl B) w (.bl _) h⟩
  · obtain ⟨p1, p2, al, hd, h⟩ := h
    obtain ⟨as, r1⟩ := L2.Dp.reads I _ x v (dp2_mono w.ex (hx.py p1)) rx
    obtain ⟨bs, r2⟩ := L2.Dp.reads I _ y u (dp2_mono w.ex (hy.py p2)) ry
    refine PySem.W.rcLt_alike _ _ X.A s v u as bs r1 r2 al (fun z => by cases z) ?_ _ _ _ _ ⟨_, H, I, rel_bl, k _ H B _ (Ex.refl B) w (.bl _) h⟩
    have := Nat.min_le_left (D.py (.tup ‹_›)).depth (D.py (.tup ‹_›)).depth
    omega
  · exact h.elim
end
end DL

set_option Elab.async false
set_option linter.all false
set_option maxRecDepth 100000
set_option maxHeartbeats 400000
namespace DL
open PySem L2 PySem.Spec PyProof.Rows
/-! ### the state of the draws -/
def drawAt (a : Addr) (n : Int) (G : Hp) : Prop := ∃ (c l : Addr) (cs ls : List Int) (k : Int), a ≠ l ∧ c ≠ l ∧ c ≠ a ∧
  G a = some (.dK [(Sum.inr "cells", .ref c), (Sum.inr "left", .ref l), (Sum.inr "at", .int k)]) ∧ 0 ≤ k ∧ k ≤ n ∧ G c = some (.lst (cs.map V.int)) ∧ cs.length ≤ 63 ∧ G l = some (.lst (ls.map V.int)) ∧ (∀ x ∈ ls, 0 ≤ x) ∧ ls.length ≤ 63
def drawR (a : Addr) (n : Int) : Res where
  ok := fun _ G => drawAt a n G
  mono := fun _ _ _ _ h => h
/-- the frame and a part of the resource -/
def joinH (F G : Hp) : Hp := fun a => match F a with
  | some o => some o
  | none => G a
theorem joinH_l {F G : Hp} {a : Addr} {o : HO} (h : F a = some o) : joinH F G a = some o := by unfold joinH; rw [h]
theorem joinH_r {F G : Hp} {a : Addr} (h : F a = none) : joinH F G a = G a := by unfold joinH; rw [h]
theorem joinH_none {F G : Hp} {a : Addr} (h : joinH F G a = none) : F a = none ∧ G a = none := by
  unfold joinH at h
  split at h
  · cases h
  · rename_i e; exact ⟨e, h⟩
theorem joinH_of {F G : Hp} {a : Addr} (h1 : F a = none) (h2 : G a = none) : joinH F G a = none := by rw [joinH_r h1]; exact h2
theorem joinH_ex {F G H : Hp} (h1 : Ex F H) (h2 : Ex G H) : Ex (joinH F G) H := fun a o e => by
  unfold joinH at e
  split at e
  · rename_i o' e'; cases e; exact h1 _ _ e'
  · exact h2 _ _ e
/-- _law_next(m, many): any number from 0 to many - 1 -/
def spNext : DSp := fun R ds Q _ => ∃ (a : Addr) (n k : Int) (S : Res), R = (drawR a n).star S ∧ ds = [.ref a, .int k] ∧ 1 ≤ k ∧ k < 1000000 ∧ n < 10 ^ 15 ∧ ∀ r : Int, 0 ≤ r → r < k → Q ((drawR a (n + 1)).star S) (.int r)
/-- _law_begun(script) -/
def spBegun : DSp := fun R ds Q _ => ∃ (ns : List Int) (S : Res), R = emp.star S ∧ ds = [.frl (ns.map D.int)] ∧ ns.length ≤ 63 ∧ ∀ a, Q ((drawR a 0).star S) (.ref a)

/-! ### what _law_next does -/
abbrev drawK (c l : Addr) (k : Int) : List (Key × V) := [(Sum.inr "cells", .ref c), (Sum.inr "left", .ref l), (Sum.inr "at", .int k)]
theorem sne1 : ¬ (("cells" : Str) = "left") := by decide +kernel
theorem sne2 : ¬ (("cells" : Str) = "at") := by decide +kernel
theorem sne3 : ¬ (("left" : Str) = "at") := by decide +kernel
theorem sne4 : ¬ (("at" : Str) = "left") := by decide +kernel
theorem ne1 : ¬ ((Sum.inr ("cells" : Str) : Key) = Sum.inr ("left" : Str)) := fun h => sne1 (Sum.inr.inj h)
theorem ne2 : ¬ ((Sum.inr ("cells" : Str) : Key) = Sum.inr ("at" : Str)) := fun h => sne2 (Sum.inr.inj h)
theorem ne3 : ¬ ((Sum.inr ("left" : Str) : Key) = Sum.inr ("at" : Str)) := fun h => sne3 (Sum.inr.inj h)
theorem dk_left {c l : Addr} {k : Int} : valV (drawK c l k) (Sum.inr "left") = some (.ref l) := by rw [valV_neg (by exact ne1), valV_pos rfl]
theorem dk_cells {c l : Addr} {k : Int} : valV (drawK c l k) (Sum.inr "cells") = some (.ref c) := by rw [valV_pos rfl]
theorem dk_at {c l : Addr} {k : Int} : valV (drawK c l k) (Sum.inr "at") = some (.int k) := by rw [valV_neg (by exact ne2), valV_neg (by exact ne3), valV_pos rfl]
theorem dk_putl {c l l' : Addr} {k : Int} : putK (drawK c l k) (Sum.inr "left") (.ref l') = drawK c l' k := by
  unfold putK
  rw [if_pos (by simp)]
  simp [sne1, sne4]
theorem dk_puta {c l : Addr} {k k' : Int} : putK (drawK c l k) (Sum.inr "at") (.int k') = drawK c l k' := by
  unfold putK
  rw [if_pos (by simp)]
  simp [sne2, sne3]
structure DrawX (a : Addr) (B Fz H : Hp) (c l : Addr) (cs ls : List Int) (k : Int) : Prop where
  ex : Ex B H
  fz : Ex Fz H
  fa : B a = none ∧ Fz a = none
  fc : B c = none ∧ Fz c = none
  fl : B l = none ∧ Fz l = none
  al : a ≠ l
  cl : c ≠ l
  ca : c ≠ a
  ha : H a = some (.dK (drawK c l k))
  hc : H c = some (.lst (cs.map V.int))
  hl : H l = some (.lst (ls.map V.int))
  lc : cs.length ≤ 63
  nn : ∀ x ∈ ls, 0 ≤ x
  ll : ls.length ≤ 63
section
variable {a c l : Addr} {B Fz H : Hp} {cs ls : List Int} {k : Int}
theorem DrawX.junk {p : Addr} {o : HO} (d : DrawX a B Fz H c l cs ls k) (h : H p = none) : DrawX a B Fz (L2.upd H p o) c l cs ls k :=
  { d with
    ex := fun b u e => by rw [upd_ne (ne_of_none (d.ex b u e) h)]; exact d.ex b u e
    fz := fun b u e => by rw [upd_ne (ne_of_none (d.fz b u e) h)]; exact d.fz b u e
    ha := by rw [upd_ne (ne_of_none d.ha h)]; exact d.ha
    hc := by rw [upd_ne (ne_of_none d.hc h)]; exact d.hc
    hl := by rw [upd_ne (ne_of_none d.hl h)]; exact d.hl }
theorem ne_free {B : Hp} {a b : Addr} {u : HO} (h : B a = none) (e : B b = some u) : b ≠ a := fun z => by rw [z, h] at e; cases e
theorem DrawX.drop {p : Addr} {ms : List Int} (d : DrawX a B Fz H c l cs ls k) (h : H p = none) (nn : ∀ x ∈ ms, 0 ≤ x) (ll : ms.length ≤ 63) : DrawX a B Fz (L2.upd (L2.upd H p (.lst (ms.map V.int))) a (.dK (drawK c p k))) c p cs ms k :=
  { d with
    ex := fun b u e => by rw [upd_ne (ne_free d.fa.1 e), upd_ne (ne_of_none (d.ex b u e) h)]; exact d.ex b u e
    fz := fun b u e => by rw [upd_ne (ne_free d.fa.2 e), upd_ne (ne_of_none (d.fz b u e) h)]; exact d.fz b u e
    fl := ⟨d.ex.free h, d.fz.free h⟩
    al := ne_of_none d.ha h
    cl := ne_of_none d.hc h
    ha := upd_same
    hc := by rw [upd_ne d.ca, upd_ne (ne_of_none d.hc h)]; exact d.hc
    hl := by rw [upd_ne (ne_of_none d.ha h).symm]; exact upd_same
    nn := nn
    ll := ll }
theorem DrawX.store {ms : List Int} (d : DrawX a B Fz H c l cs ls k) (nn : ∀ x ∈ ms, 0 ≤ x) (ll : ms.length ≤ 63) : DrawX a B Fz (L2.upd H l (.lst (ms.map V.int))) c l cs ms k :=
  { d with
    ex := fun b u e => by rw [upd_ne (ne_free d.fl.1 e)]; exact d.ex b u e
    fz := fun b u e => by rw [upd_ne (ne_free d.fl.2 e)]; exact d.fz b u e
    ha := by rw [upd_ne d.al]; exact d.ha
    hc := by rw [upd_ne d.cl]; exact d.hc
    hl := upd_same
    nn := nn
    ll := ll }
theorem DrawX.tick {k' : Int} (d : DrawX a B Fz H c l cs ls k) : DrawX a B Fz (L2.upd H a (.dK (drawK c l k'))) c l cs ls k' :=
  { d with
    ex := fun b u e => by rw [upd_ne (ne_free d.fa.1 e)]; exact d.ex b u e
    fz := fun b u e => by rw [upd_ne (ne_free d.fa.2 e)]; exact d.fz b u e
    ha := upd_same
    hc := by rw [upd_ne d.ca]; exact d.hc
    hl := by rw [upd_ne d.al.symm]; exact d.hl }
theorem Wd.draw {n : Int} {S : Res} (w : Wd ((drawR a n).star S) B Fz H) : ∃ G, S.ok B G ∧ (∀ b o, G b = some o → B b = none ∧ Fz b = none) ∧ ∃ c l cs ls k, DrawX a B (joinH Fz G) H c l cs ls k ∧ 0 ≤ k ∧ k ≤ n := by
  obtain ⟨G, g1, g2, G1, G2, e1, e2, dj, ⟨c, l, cs, ls, k, n1, n2, n3, h1, k0, k1, h2, l1, h3, h4, l2⟩, h5⟩ := w.res
  have f : ∀ {x : Addr} {o : HO}, G1 x = some o → B x = none ∧ joinH Fz G2 x = none := fun {x o} e => by
    have := g2 _ _ (e1 _ _ e)
    refine ⟨this.1, joinH_of this.2 ?_⟩
    rcases dj x with z | z
    · rw [z] at e; cases e
    · exact z
  exact ⟨G2, h5, fun b o e => g2 b o (e2 _ _ e), c, l, cs, ls, k, ⟨w.ex, joinH_ex w.fz (e2.trans g1), f h1, f h2, f h3, n1, n2, n3, g1 _ _ (e1 _ _ h1), g1 _ _ (e1 _ _ h2), g1 _ _ (e1 _ _ h3), l1, h4, l2⟩, k0, k1⟩
theorem DrawX.wd {n : Int} {S : Res} {G : Hp} (d : DrawX a B (joinH Fz G) H c l cs ls k) (hS : S.ok B G) (hG : ∀ b o, G b = some o → B b = none ∧ Fz b = none) (sys : ∃ o, Fz sysModules = some (sysO o)) (dis : ∀ a o, Fz a = some o → B a = none) (k0 : 0 ≤ k) (k1 : k ≤ n) : Wd ((drawR a n).star S) B Fz H := by
  have exG : Ex G H := fun b o e => d.fz b o (by rw [joinH_r (hG b o e).2]; exact e)
  let G1 : Hp := fun b => if b = a ∨ b = c ∨ b = l then H b else none
  have i1 : ∀ {b : Addr}, b = a ∨ b = c ∨ b = l → G1 b = H b := fun h => if_pos h
  have i2 : ∀ {b : Addr} {o : HO}, G1 b = some o → (b = a ∨ b = c ∨ b = l) ∧ H b = some o := fun {b o} h => by
    by_cases q : b = a ∨ b = c ∨ b = l
    · rw [i1 q] at h; exact ⟨q, h⟩
    · rw [show G1 b = none from if_neg q] at h; cases h
  have fz : ∀ {b : Addr}, b = a ∨ b = c ∨ b = l → B b = none ∧ Fz b = none ∧ G b = none := fun {b} h => by
    rcases h with rfl | rfl | rfl
    · exact ⟨d.fa.1, joinH_none d.fa.2⟩
    · exact ⟨d.fc.1, joinH_none d.fc.2⟩
    · exact ⟨d.fl.1, joinH_none d.fl.2⟩
  refine ⟨d.ex, fun b o e => d.fz b o (joinH_l e), sys, dis, joinH G1 G, joinH_ex (fun b o e => (i2 e).2) exG, fun b o e => ?_, G1, G, fun b o e => joinH_l e, fun b o e => ?_, fun b => ?_, ?_, hS⟩
  · cases q : G1 b with
    | some u => have := fz (i2 q).1; exact ⟨this.1, this.2.1⟩
    | none => rw [joinH_r q] at e; exact hG b o e
  · cases q : G1 b with
    | some u => have := fz (i2 q).1; rw [this.2.2] at e; cases e
    | none => rw [joinH_r q]; exact e
  · by_cases q : b = a ∨ b = c ∨ b = l
    · exact .inr (fz q).2.2
    · exact .inl (if_neg q)
  · exact ⟨c, l, cs, ls, k, d.al, d.cl, d.ca, by rw [i1 (.inl rfl)]; exact d.ha, k0, k1, by rw [i1 (.inr (.inl rfl))]; exact d.hc, d.lc, by rw [i1 (.inr (.inr rfl))]; exact d.hl, d.nn, d.ll⟩
theorem dpAll_ints {K : PySem.W.Frag} : ∀ (ms : List Int), L2.DpAll K H (ms.map V.int) (ms.map PyData.int)
  | [] => .nil
  | x :: r => .cons (.int x) (dpAll_ints r)
theorem dp_ints {K : PySem.W.Frag} {p : Addr} {ms : List Int} (h : H p = some (.lst (ms.map V.int))) : L2.Dp K H (.ref p) (.list (ms.map PyData.int)) := .lst (SqL.of h) (dpAll_ints ms)
theorem depthAll_ints : ∀ (ms : List Int), PyData.depthAll (ms.map PyData.int) = 0
  | [] => rfl
  | x :: r => by show max 0 (PyData.depthAll (r.map PyData.int)) = 0; rw [depthAll_ints r]; rfl
theorem lay_ints : ∀ (ms : List Int), PyData.canLayAll0 (ms.map PyData.int) = true
  | [] => rfl
  | x :: r => by show (true && PyData.canLayAll0 (r.map PyData.int)) = true; rw [lay_ints r]; rfl
theorem shaped_ints (ms : List Int) : SeqAt.shaped (.list (ms.map PyData.int)) = true := by
  unfold SeqAt.shaped
  show (PyData.canLayAll0 (ms.map PyData.int) && decide (PyData.depthAll (ms.map PyData.int) + 1 ≤ 64)) = true
  rw [lay_ints, depthAll_ints]; rfl
theorem eqv_nil (ms : List Int) : PyData.eqv (.list (ms.map PyData.int)) (.list []) = ms.isEmpty := by cases ms <;> rfl
theorem atI0 {α : Type} (x : α) (r : List α) : atI (x :: r) 0 = some x := by
  unfold atI ixN
  rw [if_pos (by omega), if_pos (by simp)]
  rfl
/-- xs != [] -/
theorem ne_nil {K : PySem.W.Frag} {σ : L2.St} {te : TE} {Q : Bool → Hp → Prop} {p : Addr} {ms : List Int} (ht : ∀ Q' : VK, Q' (.ref p) H → te σ H Q') (hp : H p = some (.lst (ms.map V.int))) (hq : ∀ x, H x = none → Q (!ms.isEmpty) (L2.upd H x (.lst []))) :
    tTest (tOp (rNeD K) te (tLst tNil)) σ H Q := by
  refine ht _ ⟨Nat.zero_le _, fun x hx => ?_⟩
  refine ⟨_, _, dp_ints (ms := ms) (by rw [upd_ne (ne_of_none hp hx)]; exact hp), dp_ints (ms := []) upd_same, shaped_ints _, shaped_ints [], _, rfl, ?_⟩
  show Q (!PyData.eqv (.list (ms.map PyData.int)) (.list [])) _
  rw [eqv_nil]
  exact hq x hx
abbrev tKey (x : Str) : TE := tDGet (tVar 0) (tC (.str x))
theorem left_v {σ : L2.St} (h0 : σ[0]? = some (some (.ref a))) (d : DrawX a B Fz H c l cs ls k) (Q : VK) (q : Q (.ref l) H) : tKey "left" σ H Q := ⟨_, h0, a, _, rfl, .inl ⟨_, Sum.inr "left", .inl d.ha, rfl, dk_left.symm⟩, q⟩
theorem cells_v {σ : L2.St} (h0 : σ[0]? = some (some (.ref a))) (d : DrawX a B Fz H c l cs ls k) (Q : VK) (q : Q (.ref c) H) : tKey "cells" σ H Q := ⟨_, h0, a, _, rfl, .inl ⟨_, Sum.inr "cells", .inl d.ha, rfl, dk_cells.symm⟩, q⟩
theorem at_v {σ : L2.St} (h0 : σ[0]? = some (some (.ref a))) (d : DrawX a B Fz H c l cs ls k) (Q : VK) (q : Q (.int k) H) : tKey "at" σ H Q := ⟨_, h0, a, _, rfl, .inl ⟨_, Sum.inr "at", .inl d.ha, rfl, dk_at.symm⟩, q⟩
abbrev rInt1 : List V → Hp → VK → Prop := fun xs H Q => (∃ i, xs = [V.int i] ∧ Q (V.int i) H) ∨ ∃ k, xs = [V.bl k] ∧ Q (V.int (if k = true then 1 else 0)) H
abbrev rLenSq (K : PySem.W.Frag) : List V → Hp → VK → Prop := fun xs H Q => ∃ p ys, xs = [.ref p] ∧ (SqL K H p ys ∨ SqT K H p ys) ∧ Q (.int ys.length) H
abbrev oAdd : R2 := rI0 fun i j => .int (i + j)
abbrev oMul : R2 := rI CMul fun i j => .int (i * j)
abbrev oDiv : R2 := rI CDiv fun i j => .int (i / j)
abbrev oMod : R2 := rI (fun _ j => 0 < j) fun i j => .int (i % j)
abbrev tInt (t : TE) : TE := tCB rInt1 (tCons t tNil)
def tNextA (K : PySem.W.Frag) : TS := tWhile (tAnd (tTest (tOp (rNeD K) (tKey "left") (tLst tNil))) (tTest (tOp rEq (tOp (rIxL K) (tKey "left") (tC (.int 0))) (tC (.int 0))))) (sDPut (tVar 0) (tC (.str "left")) (tSl (rSlL K) (tKey "left") (tPart (tC (.int 1))) tNoPart))
def tNextB (K : PySem.W.Frag) : TS := tSeq (tAsg (tOp (rIxL K) (tKey "left") (tC (.int 0))) (gName 2)) (tSeq (tAsg (tOp oDiv (tVar 2) (tVar 1)) (gSub (tKey "left") (tC (.int 0)) rSetL)) (tRet (tOp oMod (tInt (tVar 2)) (tVar 1))))
def tNextC (K : PySem.W.Frag) : TS := tSeq (tPar 3 4 (tCons (tOp oAdd (tKey "at") (tC (.int 1))) (tCons (tKey "cells") tNil))) (tSeq (sDPut (tVar 0) (tC (.str "at")) (tVar 3))
  (tSeq (tAsg (tIf (tTest (tOp (rNeD K) (tVar 4) (tLst tNil))) (tInt (tOp (rIxL K) (tVar 4) (tOp oMod (tInt (tOp oAdd (tOp oMul (tVar 3) (tVar 3)) (tOp oDiv (tVar 3) (tC (.int 2))))) (tCB (rLenSq K) (tCons (tVar 4) tNil))))) (tC (.int 5))) (gName 5))
  (tSeq (tAsg (tOp oMod (tInt (tOp oAdd (tOp oAdd (tOp oMul (tVar 5) (tC (.int 40692))) (tOp oMul (tVar 3) (tC (.int 65539)))) (tOp oMul (tOp oMul (tC (.int 7001)) (tVar 3)) (tVar 3)))) (tC (.int 2147483399))) (gName 6))
  (tRet (tOp oMod (tInt (tOp oDiv (tOp oMod (tInt (tOp oAdd (tOp oMul (tVar 6) (tC (.int 48271))) (tOp oMul (tC (.int 1013)) (tVar 3)))) (tC (.int 2147483647))) (tC (.int 13)))) (tVar 1))))))
def tNextDef (K : PySem.W.Frag) : TS := tSeq (tNextA K) (tSeq (tIfS (tTest (tOp (rNeD K) (tKey "left") (tLst tNil))) (tNextB K) tNext) (tNextC K))
theorem small64 {k : Int} (h0 : 0 ≤ k) (h1 : k ≤ 10 ^ 15 + 1) : -(2 ^ 64) < k ∧ k < 2 ^ 64 := by constructor <;> omega
theorem next_vc {M : Md} {vs : List V} {Q : VK} {E : XK} (h : spL M spNext vs H Q E) : tNextDef M.K { nx := fun _ H' => Q .non H', rt := Q } (vs.map some ++ List.replicate (7 - vs.length) none) H := by
  obtain ⟨R, Fz, B, ds, Qd, Ed, wd, hd, ⟨a, n, k, S, rfl, rfl, k1, k2, hn, hq⟩, kq, _⟩ := h
  cases hd with
  | cons h0 hd => cases hd with
    | cons h1 hd =>
      cases hd; cases h0; cases h1
      obtain ⟨G, hS, hG, c, l, cs, ls, kk, dx, kk0, kk1⟩ := wd.draw
      show tNextA M.K _ [some (.ref a), some (.int k), none, none, none, none, none] H
      have fin : ∀ (H' : Hp) (c l : Addr) (cs ls : List Int) (k' r : Int), DrawX a B (joinH Fz G) H' c l cs ls k' → 0 ≤ k' → k' ≤ n + 1 → 0 ≤ r → r < k → Q (.int r) H' := fun H' c l cs ls k' r d z0 z1 r0 r1 =>
        kq ((drawR a (n + 1)).star S) (.int r) H' B (.int r) (Ex.refl B) (d.wd hS hG wd.sys wd.dis z0 z1) (.int r) (hq r r0 r1)
      refine ⟨fun m σ H' => σ = [some (.ref a), some (.int k), none, none, none, none, none] ∧ ∃ l ls, m = ls.length ∧ DrawX a B (joinH Fz G) H' c l cs ls kk, ⟨ls.length, rfl, l, ls, rfl, dx⟩, ?_⟩
      rintro m σ H' ⟨rfl, l, ls, rfl, d⟩
      refine ne_nil (fun Q' q => left_v rfl d Q' q) d.hl fun x hx => ?_
      cases ls with
      | cons y r =>
        refine iteT ?_
        have d1 := d.junk (o := .lst []) hx
        refine left_v rfl d1 _ ⟨l, _, 0, .int y, rfl, rfl, SqL.of d1.hl, atI0 _ _, rfl, _, rfl, ?_⟩
        by_cases hy : y = 0
        · rw [hy, decide_eq_true rfl]
          refine iteT ⟨fun σ2 H2 => σ2 = [some (.ref a), some (.int k), none, none, none, none, none] ∧ ∃ l, DrawX a B (joinH Fz G) H2 c l cs r kk, fun σ2 H2 ⟨e, l2, z⟩ => ⟨r.length, Nat.lt_succ_self _, e, l2, r, rfl, z⟩, ?_⟩
          refine left_v rfl d1 _ ⟨1, rfl, l, _, rfl, SqL.of d1.hl, fun p hp => ?_⟩
          have e : cutV ((y :: r).map V.int) (some 1) none = r.map V.int := by
            unfold cutV
            simp [HT.sIx]
            exact List.take_of_length_le (by simp)
          rw [e]
          have d2 := d1.drop (p := p) (ms := r) hp (fun x m => d.nn x (List.mem_cons_of_mem _ m)) (by have := d.ll; simp at this; omega)
          have ha' : (L2.upd (L2.upd H' x (.lst [])) p (.lst (r.map V.int))) a = some (.dK (drawK c l kk)) := by rw [upd_ne (ne_of_none d1.ha hp)]; exact d1.ha
          refine ⟨_, rfl, a, _, rfl, .inl ⟨_, Sum.inr "left", ha', rfl, (by show 3 < sizeLine; decide), rfl⟩, rfl, p, ?_⟩
          rw [dk_putl]
          exact d2
        · rw [decide_eq_false (fun z => hy (by injection z))]
          refine iteF ?_
          -- a digit of a great cell
          show tTest (tOp (rNeD M.K) (tKey "left") (tLst tNil)) _ _ _
          refine ne_nil (fun Q' q => left_v rfl d1 Q' q) d1.hl fun x2 hx2 => iteT ?_
          have d3 := d1.junk (o := .lst []) hx2
          have y0 : 0 ≤ y := d.nn y (List.mem_cons_self ..)
          refine left_v rfl d3 _ ⟨l, _, 0, .int y, rfl, rfl, SqL.of d3.hl, atI0 _ _, ?_⟩
          refine ⟨_, rfl, _, rfl, y, k, rfl, rfl, ⟨by omega, by omega⟩, left_v rfl d3 _ ⟨l, _, 0, 0, rfl, rfl, d3.hl, by unfold ixN; rw [if_pos (by omega), if_pos (by simp)]; rfl, ?_⟩⟩
          have d4 := d3.store (ms := y / k :: r) (fun x m => by
            rcases List.mem_cons.mp m with rfl | m
            · exact Int.ediv_nonneg y0 (by omega)
            · exact d.nn x (List.mem_cons_of_mem _ m)) (by have := d.ll; simpa using this)
          refine ⟨_, rfl, .inl ⟨y, rfl, _, rfl, y, k, rfl, rfl, by omega, ?_⟩⟩
          exact fin _ c l cs _ kk (y % k) d4 kk0 (by omega) (Int.emod_nonneg _ (by omega)) (Int.emod_lt_of_pos _ (by omega))
      | nil =>
        refine iteF (iteF ?_)
        have d1 := d.junk (o := .lst []) hx
        show tTest (tOp (rNeD M.K) (tKey "left") (tLst tNil)) _ _ _
        refine ne_nil (fun Q' q => left_v rfl d1 Q' q) d1.hl fun x2 hx2 => iteF ?_
        have d2 := d1.junk (o := .lst []) hx2
        show tNextC M.K _ _ _
        have s1 := small64 (k := kk + 1) (by omega) (by omega)
        refine at_v rfl d2 _ ⟨kk, 1, rfl, rfl, cells_v rfl d2 _ ⟨_, _, rfl, ?_⟩⟩
        refine ⟨_, rfl, _, rfl, a, _, rfl, .inl ⟨_, Sum.inr "at", d2.ha, rfl, (by show 3 < sizeLine; decide), rfl⟩, ?_⟩
        rw [dk_puta]
        have d3 := d2.tick (k' := kk + 1)
        show tTest (tOp (rNeD M.K) (tVar 4) (tLst tNil)) [some (.ref a), some (.int k), none, some (.int (kk + 1)), some (.ref c), none, none] _ _
        refine ne_nil (fun Q' q => ⟨_, rfl, q⟩) d3.hc fun x3 hx3 => ?_
        have d4 := d3.junk (o := .lst []) hx3
        have rest : ∀ (cell : Int), tSeq (tAsg (tOp oMod (tInt (tOp oAdd (tOp oAdd (tOp oMul (tVar 5) (tC (.int 40692))) (tOp oMul (tVar 3) (tC (.int 65539)))) (tOp oMul (tOp oMul (tC (.int 7001)) (tVar 3)) (tVar 3)))) (tC (.int 2147483399))) (gName 6))
            (tRet (tOp oMod (tInt (tOp oDiv (tOp oMod (tInt (tOp oAdd (tOp oMul (tVar 6) (tC (.int 48271))) (tOp oMul (tC (.int 1013)) (tVar 3)))) (tC (.int 2147483647))) (tC (.int 13)))) (tVar 1))) { nx := fun _ H' => Q .non H', rt := Q }
            [some (.ref a), some (.int k), none, some (.int (kk + 1)), some (.ref c), some (.int cell), none] (L2.upd (L2.upd (L2.upd (L2.upd H' x (.lst [])) x2 (.lst [])) a (.dK (drawK c l (kk + 1)))) x3 (.lst [])) := fun cell => by
          refine ⟨_, rfl, cell, 40692, rfl, rfl, .inr (by decide), _, rfl, _, _, rfl, rfl, .inr (by decide), _, _, rfl, rfl, _, rfl, _, _, rfl, rfl, .inl (by decide), _, rfl, _, _, rfl, rfl, .inr s1, _, _, rfl, rfl, .inl ⟨_, rfl, _, _, rfl, rfl, (by show (0 : Int) < 2147483399; decide), ?_⟩⟩
          refine ⟨_, rfl, _, _, rfl, rfl, .inr (by decide), _, rfl, _, _, rfl, rfl, .inl (by decide), _, _, rfl, rfl, .inl ⟨_, rfl, _, _, rfl, rfl, (by show (0 : Int) < 2147483647; decide), _, _, rfl, rfl, ⟨by decide, by decide⟩, .inl ⟨_, rfl, _, rfl, _, _, rfl, rfl, by omega, ?_⟩⟩⟩
          exact fin _ c l cs _ (kk + 1) _ d4 (by omega) (by omega) (Int.emod_nonneg _ (by omega)) (Int.emod_lt_of_pos _ (by omega))
        cases cs with
        | nil =>
          refine iteF ?_
          exact rest 5
        | cons z zs =>
          refine iteT ?_
          have len1 : (0 : Int) < (((z :: zs).map V.int).length : Nat) := by simp
          refine ⟨_, rfl, _, rfl, _, rfl, _, _, rfl, rfl, .inl s1, _, rfl, _, _, rfl, rfl, ⟨by decide, by decide⟩, _, _, rfl, rfl, .inl ⟨_, rfl, _, rfl, c, _, rfl, .inl (SqL.of d4.hc), _, _, rfl, rfl, len1, ?_⟩⟩
          have i0 := Int.emod_nonneg ((kk + 1) * (kk + 1) + (kk + 1) / 2) (Int.ne_of_gt len1)
          have i1 := Int.emod_lt_of_pos ((kk + 1) * (kk + 1) + (kk + 1) / 2) len1
          obtain ⟨v, hv⟩ : ∃ v, atI ((z :: zs).map V.int) (((kk + 1) * (kk + 1) + (kk + 1) / 2) % (((z :: zs).map V.int).length : Nat)) = some v := by
            unfold atI ixN
            rw [if_pos i0, if_pos (by omega)]
            exact ⟨_, List.getElem?_eq_getElem (by omega)⟩
          have hm : v ∈ (z :: zs).map V.int := by
            unfold atI at hv
            cases q : ixN ((z :: zs).map V.int).length (((kk + 1) * (kk + 1) + (kk + 1) / 2) % (((z :: zs).map V.int).length : Nat)) with
            | none => rw [q] at hv; cases hv
            | some j => rw [q] at hv; exact List.mem_of_getElem? hv
          obtain ⟨i, _, rfl⟩ := List.mem_map.mp hm
          exact ⟨c, _, _, .int i, rfl, rfl, SqL.of d4.hc, hv, .inl ⟨i, rfl, rest i⟩⟩
end
end DL

set_option Elab.async false
set_option linter.all false
set_option maxRecDepth 100000
set_option maxHeartbeats 400000
namespace DL
open PySem L2 PySem.Spec PyProof.Rows
abbrev rListSq (K : PySem.W.Frag) : List V → Hp → VK → Prop := fun xs H Q => ∃ p ys, xs = [.ref p] ∧ (SqL K H p ys ∨ SqT K H p ys) ∧ ∀ l, H l = none → Q (.ref l) (L2.upd H l (.lst ys))
abbrev oGe : R2 := rI0 fun i j => .bl (decide (j ≤ i))
abbrev oPow : R2 := rI CPow fun i j => .int (i ^ j.toNat)
def tBegunDef (K : PySem.W.Frag) : TS := tRet (tDisp [(tC (.str "cells"), tCB (rListSq K) (tCons (tVar 0) tNil)), (tC (.str "left"), tLc (iList K (tVar 0)) (gName 1) (tTest (tOp oGe (tVar 1) (tOp oPow (tC (.int 10)) (tC (.int 18))))) (tVar 1) [1]), (tC (.str "at"), tC (.int 0))])
theorem merge3 {c l : Addr} {k : Int} : mergeK [] (drawK c l k) = drawK c l k := by
  simp [mergeK, putK, sne1, sne2, sne3]
theorem begun_vc {H : Hp} {M : Md} {vs : List V} {Q : VK} {E : XK} (h : spL M spBegun vs H Q E) : tBegunDef M.K { nx := fun _ H' => Q .non H', rt := Q } (vs.map some ++ List.replicate (2 - vs.length) none) H := by
  obtain ⟨R, Fz, B, ds, Qd, Ed, wd, hd, ⟨ns, S, rfl, rfl, hl, hq⟩, kq, _⟩ := h
  obtain ⟨G, g1, g2, _, G2, _, e2G, _, _, hS⟩ := wd.res
  have hG : ∀ b o, G2 b = some o → B b = none ∧ Fz b = none := fun b o e => g2 b o (e2G _ _ e)
  have exG : Ex (joinH Fz G2) H := joinH_ex wd.fz (e2G.trans g1)
  cases hd with
  | cons h0 hd =>
    cases hd
    cases h0 with
    | @frl a xs _ hs hx =>
      have ex := hx.ofInts
      subst ex
      intro p hp
      have e1 : Ex H (L2.upd H p (.dK [])) := Ex.new hp
      refine ⟨_, rfl, a, _, rfl, .inl ((wd.ex.trans e1).sl hs), fun c hc => ?_⟩
      have e2 : Ex (L2.upd H p (.dK [])) (L2.upd (L2.upd H p (.dK [])) c (.lst (ns.map V.int))) := Ex.new hc
      have np : p ≠ c := fun z => by rw [← z, upd_same] at hc; cases hc
      refine ⟨_, rfl, a, rfl, ⟨_, (wd.ex.trans (e1.trans e2)).sl hs⟩, fun l hl' => ?_⟩
      refine lc_list (K := M.K) (a := a) (xs := ns.map V.int) (fun i H' => ∃ ms : List Int, (∀ x ∈ ms, 0 ≤ x) ∧ ms.length ≤ i ∧ Ex (L2.upd (L2.upd H p (.dK [])) c (.lst (ns.map V.int))) H' ∧ H' l = some (.lst (ms.map V.int)))
        ⟨[], by simp, Nat.zero_le _, Ex.new hl', upd_same⟩ (fun i H' _ ⟨ms, _, _, e3, _⟩ => (wd.ex.trans ((e1.trans e2).trans e3)).sl hs) ?_ ?_
      · rintro i x H' hi ⟨ms, m0, ml, e3, m3⟩
        rw [List.getElem?_map] at hi
        cases q : ns[i]? with
        | none => rw [q] at hi; cases hi
        | some y =>
          rw [q] at hi
          cases hi
          refine ⟨rfl, _, rfl, _, _, rfl, rfl, ⟨by decide, by decide, by decide⟩, y, _, rfl, rfl, _, rfl, ?_⟩
          by_cases hy : (10 : Int) ^ (18 : Int).toNat ≤ y
          · rw [decide_eq_true hy]
            refine iteT ⟨_, rfl, _, m3, ?_, ms ++ [y], ?_, by simp; omega, fun b u e => ?_, ?_⟩
            · rw [List.length_map, sizeLine_eq]
              have := (List.getElem?_eq_some_iff.mp q).1
              omega
            · intro z hz
              rcases List.mem_append.mp hz with hz | hz
              · exact m0 z hz
              · simp at hz; subst hz
                have : (0 : Int) ≤ 10 ^ (18 : Int).toNat := by decide
                omega
            · rw [upd_ne (ne_of_none e hl')]; exact e3 b u e
            · rw [upd_same, List.map_append]; rfl
          · rw [decide_eq_false hy]
            exact iteF ⟨ms, m0, by omega, e3, m3⟩
      · rintro H' ⟨ms, m0, ml, e3, m3⟩
        rw [List.length_map] at ml
        have hpc : H' p = some (.dK []) := e3 _ _ (e2 _ _ upd_same)
        have hcc : H' c = some (.lst (ns.map V.int)) := e3 _ _ upd_same
        refine ⟨hpc, drawK c l 0, rfl, (by show 3 ≤ 15; decide), ?_⟩
        rw [merge3]
        have hB : ∀ {x : Addr}, H x = none → B x = none ∧ joinH Fz G2 x = none := fun hx => ⟨wd.ex.free hx, exG.free hx⟩
        have hcH : H c = none := e1.free hc
        have hlH : H l = none := (e1.trans e2).free hl'
        have big := (e1.trans e2).trans e3
        have npl : p ≠ l := fun z => by rw [z] at hpc; rw [m3] at hpc; cases hpc
        have ncl : c ≠ l := ne_of_none upd_same hl'
        have d : DrawX p B (joinH Fz G2) (L2.upd H' p (.dK (drawK c l 0))) c l ns ms 0 :=
          ⟨fun b u e => by rw [upd_ne (ne_of_none (wd.ex b u e) hp)]; exact big b u (wd.ex b u e), fun b u e => by rw [upd_ne (ne_of_none (exG b u e) hp)]; exact big b u (exG b u e),
            hB hp, hB hcH, hB hlH, npl, ncl, np.symm, upd_same, by rw [upd_ne np.symm]; exact hcc, by rw [upd_ne npl.symm]; exact m3, hl, m0, by omega⟩
        exact kq ((drawR p 0).star S) (.ref p) _ B (.ref p) (Ex.refl B) (d.wd hS hG wd.sys wd.dis (Int.le_refl 0) (Int.le_refl 0)) (.ref p) (hq p)
end DL

set_option Elab.async false
set_option linter.all false
set_option maxRecDepth 100000
set_option maxHeartbeats 400000
namespace DL
open PySem L2 PySem.Spec PyProof.Rows
section
variable {X : Cx} {W : WX} {a b c e e2 tg : Expr} {es rest : List Expr} {ta tb tc t : DT} {tA tB' : DB} {tr : DA} {pos : Pos} {js : List Nat} {g : DG} {gl : DGl} {st : Stmt} {sts sts2 : List Stmt} {ts tu : DSt}
/-! ### stars in displays and calls -/
def seqD : D → Option (List D)
  | .tup ds => some ds | .lst ds => some ds | .tpw ds => some ds | _ => none
def dStar (ta : DT) (tr : DA) : DA := fun R ρ Q E => ta R ρ (fun R d => ∃ xs, seqD d = some xs ∧ tr R ρ (fun R ys => Q R (xs ++ ys)) E) E
theorem da_star {p : Pos} (he : DE X W e t) (hr : DAs X W es tr) (hs : starEach (.Starred e p :: es) X.env = (true, eval e X.env) :: starEach es X.env := by rfl) : DAs X W (.Starred e p :: es) (dStar t tr) :=
  (StX.pa_star he hr hs).imp fun σ H Q ⟨R, Fz, B, ρ, Qd, E, w, sl, q, k, x⟩ => ⟨R, Fz, B, ρ, _, E, w, sl, q, fun R v H1 B1 d e1 w1 h1 ⟨xs, hx, q1⟩ => by
    cases h1 with
    | tup s h => cases hx; exact ⟨_, _, rfl, .inl (w1.ex.st s.st), R, Fz, B1, ρ, _, E, w1, sl.mono e1, q1, fun R vs H2 B2 ds e2 w2 h2 q2 => k R _ H2 B2 _ (e1.trans e2) w2 ((h.mono e2).append h2) q2, x.mono e1⟩
    | tpw s h => cases hx; exact ⟨_, _, rfl, .inl (w1.ex.st s), R, Fz, B1, ρ, _, E, w1, sl.mono e1, q1, fun R vs H2 B2 ds e2 w2 h2 q2 => k R _ H2 B2 _ (e1.trans e2) w2 ((h.mono e2).append h2) q2, x.mono e1⟩
    | lst s h => cases hx; exact ⟨_, _, rfl, .inr (SqL.of (w1.ex _ _ s)), R, Fz, B1, ρ, _, E, w1, sl.mono e1, q1, fun R vs H2 B2 ds e2 w2 h2 q2 => k R _ H2 B2 _ (e1.trans e2) w2 ((h.mono e2).append h2) q2, x.mono e1⟩
    | _ => (cases hx), x⟩

/-! ### a, b = x, y -/
def dPar (i j : Nat) (tr : DA) : DSt := fun R De ρ => tr R ρ (fun R ds => ∃ u v, ds = [u, v] ∧ De.nx R ((ρ.set i (some u)).set j (some v))) (fun R c fs => De.ex R c fs ρ)
theorem ds_par {i j : Nat} {x y : Str} {px py pt : Pos} {kt k2 pt2} (hc : X.calm = true) (hN : X.N.Nodup) (hi : X.N[i]? = some x) (hj : X.N[j]? = some y) (hij : i ≠ j) (hx : X.env.scope.names.lookup x = some .local) (hy : X.env.scope.names.lookup y = some .local)
    (ha : DAs X W [a, b] tr) (hw : swappedStores [.Tuple [.Name x px, .Name y py] kt pt] (.Tuple [a, b] k2 pt2) X.env = pure (some [x, y])) (hs : swapsWithSole [.Tuple [.Name x px, .Name y py] kt pt] (.Tuple [a, b] k2 pt2) pos.line X.env = pure false := by rfl) :
    DS X W (.Assign [.Tuple [.Name x px, .Name y py] kt pt] (.Tuple [a, b] k2 pt2) pos) (dPar i j tr) :=
  (ps_par hc hN hi hj hij hx hy ha hw hs).imp fun En σ H ⟨R, F0, B, Fz, ρ, De, s, q, x⟩ => ⟨R, Fz, B, ρ, _, _, s.wd, s.sl, q, fun R vs H' B' ds e w h ⟨u, v, hd, q1⟩ => by
    subst hd
    cases h with
    | cons h1 h => cases h with
      | cons h2 h => cases h; exact ⟨_, _, rfl, x.nx R _ _ B' Fz H' e (((s.grow e w).set h1).set h2) q1⟩, x.xl s⟩
def dPar3 (i j l : Nat) (tr : DA) : DSt := fun R De ρ => tr R ρ (fun R ds => ∃ u v z, ds = [u, v, z] ∧ De.nx R (((ρ.set i (some u)).set j (some v)).set l (some z))) (fun R c fs => De.ex R c fs ρ)
theorem ds_par3 {i j l : Nat} {x y z : Str} {px py pz pt : Pos} {kt k2 pt2} (hc : X.calm = true) (hN : X.N.Nodup) (hi : X.N[i]? = some x) (hj : X.N[j]? = some y) (hl : X.N[l]? = some z) (hij : i ≠ j) (hil : i ≠ l) (hjl : j ≠ l) (hx : X.env.scope.names.lookup x = some .local)
    (hy : X.env.scope.names.lookup y = some .local) (hz : X.env.scope.names.lookup z = some .local) (ha : DAs X W [a, b, c] tr) (hw : swappedStores [.Tuple [.Name x px, .Name y py, .Name z pz] kt pt] (.Tuple [a, b, c] k2 pt2) X.env = pure (some [x, y, z]))
    (hs : swapsWithSole [.Tuple [.Name x px, .Name y py, .Name z pz] kt pt] (.Tuple [a, b, c] k2 pt2) pos.line X.env = pure false := by rfl) :
    DS X W (.Assign [.Tuple [.Name x px, .Name y py, .Name z pz] kt pt] (.Tuple [a, b, c] k2 pt2) pos) (dPar3 i j l tr) :=
  (ps_par3 hc hN hi hj hl hij hil hjl hx hy hz ha hw hs).imp fun En σ H ⟨R, F0, B, Fz, ρ, De, s, q, x⟩ => ⟨R, Fz, B, ρ, _, _, s.wd, s.sl, q, fun R vs H' B' ds e w h ⟨u, v, z, hd, q1⟩ => by
    subst hd
    cases h with
    | cons h1 h => cases h with
      | cons h2 h => cases h with
        | cons h3 h => cases h; exact ⟨_, _, _, rfl, x.nx R _ _ B' Fz H' e ((((s.grow e w).set h1).set h2).set h3) q1⟩, x.xl s⟩

/-! ### targets and what is owned -/
/-- the slots ks are taken, the others keep what they own -/
def OF (ks : List Nat) (g : DG) : Prop := ∀ (M : Md) (B : Hp) (v : V) (d : D), Dp M B v d → ∀ (ρ : Env) (Q : Env → Prop), g d ρ Q → g d ρ fun ρ' => Q ρ' ∧ ∀ (i : Nat) (x : D), ρ'[i]? = some (some (.own x)) → i ∉ ks ∧ ρ[i]? = some (some (.own x))
def OFs (ks : List Nat) (g : DGl) : Prop := ∀ (M : Md) (B : Hp) (v : List V) (d : List D), Dps M B v d → ∀ (ρ : Env) (Q : Env → Prop), g d ρ Q → g d ρ fun ρ' => Q ρ' ∧ ∀ (i : Nat) (x : D), ρ'[i]? = some (some (.own x)) → i ∉ ks ∧ ρ[i]? = some (some (.own x))
theorem of_name (i : Nat) : OF [i] (gdName i) := fun M B v d h ρ Q q => ⟨q, fun k x e => by
  obtain ⟨n, e⟩ := set_own (fun y hy => by cases hy; exact h.notOwn) e
  exact ⟨by simp; exact fun z => n z.symm, e⟩⟩
theorem ofs_nil : OFs [] gdNil := fun M B v d h ρ Q ⟨q1, q⟩ => ⟨q1, q, fun i x e => ⟨by simp, e⟩⟩
def Mon (g : DG) : Prop := ∀ (d : D) (ρ : Env) (Q Q' : Env → Prop), (∀ ρ', Q ρ' → Q' ρ') → g d ρ Q → g d ρ Q'
def Mons (g : DGl) : Prop := ∀ (d : List D) (ρ : Env) (Q Q' : Env → Prop), (∀ ρ', Q ρ' → Q' ρ') → g d ρ Q → g d ρ Q'
theorem mon_name (i : Nat) : Mon (gdName i) := fun _ _ _ _ f q => f _ q
theorem mons_nil : Mons gdNil := fun _ _ _ _ f ⟨e, q⟩ => ⟨e, f _ q⟩
theorem mons_cons (h1 : Mon g) (h2 : Mons gl) : Mons (gdCons g gl) := fun _ _ _ _ f ⟨d, r, e, q⟩ => ⟨d, r, e, h1 _ _ _ _ (fun _ z => h2 _ _ _ _ f z) q⟩
theorem mon_tup (h : Mons gl) : Mon (gdTup gl) := fun _ _ _ _ f ⟨ds, e, q⟩ => ⟨ds, e, h _ _ _ _ f q⟩
theorem ofs_cons {ks ls : List Nat} (hg : OF ks g) (hl : OFs ls gl) (m1 : Mon g) (m2 : Mons gl) : OFs (ks ++ ls) (gdCons g gl) := fun M B v d h ρ Q ⟨d1, r, q1, q⟩ => by
  subst q1
  cases h with
  | cons h1 h2 =>
    refine ⟨d1, r, rfl, m1 _ _ _ _ (fun ρ' ⟨z, ho⟩ => m2 _ _ _ _ (fun ρ2 ⟨z2, ho2⟩ => ⟨z2, fun i x e => ?_⟩) (hl _ _ _ _ h2 ρ' Q z)) (hg _ _ _ _ h1 ρ _ q)⟩
    obtain ⟨n2, e2⟩ := ho2 i x e
    obtain ⟨n1, e1⟩ := ho i x e2
    exact ⟨fun m => (List.mem_append.mp m).elim n1 n2, e1⟩
theorem of_tup {ks : List Nat} (h : OFs ks gl) : OF ks (gdTup gl) := fun M B v d hd ρ Q ⟨ds, e, q⟩ => by
  rcases e with e | e
  · subst e
    cases hd with
    | tup s hd => exact ⟨ds, .inl rfl, h _ _ _ _ hd ρ Q q⟩
  · subst e
    cases hd with
    | tpw s hd => exact ⟨ds, .inr rfl, h _ _ _ _ hd ρ Q q⟩
theorem OF.sub {ks ls : List Nat} (h : OF ks g) (m : Mon g) (hs : ∀ i ∈ ls, i ∈ ks) : OF ls g := fun M B v d hd ρ Q q => m _ _ _ _ (fun _ ⟨z, ho⟩ => ⟨z, fun i x e => ⟨fun k => (ho i x e).1 (hs i k), (ho i x e).2⟩⟩) (h M B v d hd ρ Q q)
/-- the word of a tuple of two, of three names -/
abbrev gd2 (i j : Nat) : DG := gdTup (gdCons (gdName i) (gdCons (gdName j) gdNil))
abbrev gd3 (i j k : Nat) : DG := gdTup (gdCons (gdName i) (gdCons (gdName j) (gdCons (gdName k) gdNil)))
theorem of_2 (i j : Nat) : OF [i, j] (gd2 i j) := of_tup (ofs_cons (of_name i) (ofs_cons (of_name j) ofs_nil (mon_name j) mons_nil) (mon_name i) (mons_cons (mon_name j) mons_nil))
theorem of_3 (i j k : Nat) : OF [i, j, k] (gd3 i j k) := of_tup (ofs_cons (of_name i) (ofs_cons (of_name j) (ofs_cons (of_name k) ofs_nil (mon_name k) mons_nil) (mon_name j) (mons_cons (mon_name k) mons_nil)) (mon_name i) (mons_cons (mon_name j) (mons_cons (mon_name k) mons_nil)))
theorem dg_2 {i j : Nat} {x y : Str} {px py : Pos} {k : Nat} (hc : X.calm = true) (h1 : DGt X [i, j] (.Name x px) (gdName i)) (h2 : DGt X [i, j] (.Name y py) (gdName j)) (hn : (assignEach [.Name x px, .Name y py] X.env).length = 2 := by rfl) (hst : (assignEach [.Name x px, .Name y py] X.env).findIdx? (·.1) = none := by rfl)
    (s1 : (assignEach [.Name x px, .Name y py] X.env).map (·.2) = assign (.Name x px) X.env :: (assignEach [.Name y py] X.env).map (·.2) := by rfl) (s2 : (assignEach [.Name y py] X.env).map (·.2) = assign (.Name y py) X.env :: (assignEach [] X.env).map (·.2) := by rfl) :
    DGt X [i, j] (.Tuple [.Name x px, .Name y py] k pos) (gd2 i j) :=
  dg_tup hc (dgs_cons h1 (dgs_cons h2 dgs_nil s2) s1) hn hst (gl_cons (gl_cons gl_nil mono_name) mono_name)
theorem dg_3 {i j l : Nat} {x y z : Str} {px py pz : Pos} {k : Nat} (hc : X.calm = true) (h1 : DGt X [i, j, l] (.Name x px) (gdName i)) (h2 : DGt X [i, j, l] (.Name y py) (gdName j)) (h3 : DGt X [i, j, l] (.Name z pz) (gdName l)) (hn : (assignEach [.Name x px, .Name y py, .Name z pz] X.env).length = 3 := by rfl)
    (hst : (assignEach [.Name x px, .Name y py, .Name z pz] X.env).findIdx? (·.1) = none := by rfl) (s1 : (assignEach [.Name x px, .Name y py, .Name z pz] X.env).map (·.2) = assign (.Name x px) X.env :: (assignEach [.Name y py, .Name z pz] X.env).map (·.2) := by rfl)
    (s2 : (assignEach [.Name y py, .Name z pz] X.env).map (·.2) = assign (.Name y py) X.env :: (assignEach [.Name z pz] X.env).map (·.2) := by rfl) (s3 : (assignEach [.Name z pz] X.env).map (·.2) = assign (.Name z pz) X.env :: (assignEach [] X.env).map (·.2) := by rfl) :
    DGt X [i, j, l] (.Tuple [.Name x px, .Name y py, .Name z pz] k pos) (gd3 i j l) :=
  dg_tup hc (dgs_cons h1 (dgs_cons h2 (dgs_cons h3 dgs_nil s3) s2) s1) hn hst (gl_cons (gl_cons (gl_cons gl_nil mono_name) mono_name) mono_name)

/-! ### comprehensions of two fors -/
/-- the inner loop: D's list grows -/
theorem lc_inner {M : Md} {g : DG} {tt : DB} {te : DT} {vs js : List Nat} (hj : ∀ i ∈ js, i ∈ vs) {σ : L2.St} {ρ : Env} {R1 : Res} {B0 B1 Fz H1 : Hp} {J : It} {ds : List D} {Dl : Addr} {av : List V} {acc : List D} {Nx : Hp → Prop} {Qd : Res → List D → Prop}
    (w1 : Wd R1 B1 (L2.upd Fz Dl (.lst av)) H1) (e0 : Ex B0 B1) (it : ItD M B1 J ds) (sl : Slots M B1 σ ρ) (ha : Dps M B1 av acc) (q1 : lcGo g tt te (wipeD ρ vs) ds acc R1 Qd)
    (hN : ∀ (R : Res) (B' H' : Hp) (av : List V) (acc : List D), Ex B0 B' → Wd R B' (L2.upd Fz Dl (.lst av)) H' → Dps M B' av acc → Qd R acc → Nx H') :
    ∃ W1 : Nat → Nat → Hp → Prop, (∃ m, W1 0 m H1) ∧ ∀ j k H, W1 j k H → (J.stop j H ∧ Nx H) ∨ (J.go j H ∧ ∃ Nx1 : Hp → Prop, (∀ H', Nx1 H' → ∃ k', k' < k ∧ W1 (j + 1) k' H') ∧ ∀ x H', J.yld j H x H' → liftG M js g x (L2.wipe σ vs) H' fun σ3 H5 => L2.wipe σ3 vs = L2.wipe σ vs ∧ liftB M W0 tt σ3 H5 fun b H6 =>
        if b = true then lift M W0 te σ3 H6 fun y H7 => ∃ acc, H7 Dl = some (.lst acc) ∧ acc.length < sizeLine ∧ Nx1 (L2.upd H7 Dl (.lst (acc ++ [y]))) else Nx1 H6) := by
  have sl1 := sl.wipe vs
  refine ⟨fun i m H' => m = ds.length - i ∧ i ≤ ds.length ∧ ∃ R B' av acc, Ex B1 B' ∧ Wd R B' (L2.upd Fz Dl (.lst av)) H' ∧ Dps M B' av acc ∧ lcGo g tt te (wipeD ρ vs) (ds.drop i) acc R Qd, ⟨ds.length, by omega, Nat.zero_le _, R1, B1, av, acc, Ex.refl _, w1, ha, q1⟩, ?_⟩
  rintro i m H' ⟨hm, hi, R2, B', av, acc, e2, w2, ha, q2⟩
  by_cases hlt : i < ds.length
  · obtain ⟨d, hd⟩ := get_lt hlt
    have hdr : ds.drop i = d :: ds.drop (i + 1) := by
      rw [List.drop_eq_getElem_cons hlt]
      congr 1
      rw [List.getElem?_eq_getElem hlt] at hd
      exact Option.some.inj hd
    rw [hdr] at q2
    refine .inr ⟨it.go R2 _ B' H' i e2 w2 hlt, fun H3 => ∃ R3 B3 av3 acc3, Ex B1 B3 ∧ Wd R3 B3 (L2.upd Fz Dl (.lst av3)) H3 ∧ Dps M B3 av3 acc3 ∧ lcGo g tt te (wipeD ρ vs) (ds.drop (i + 1)) acc3 R3 Qd,
      fun H3 ⟨R3, B3, av3, acc3, z1, z2, z3, z4⟩ => ⟨ds.length - (i + 1), by omega, rfl, hlt, R3, B3, av3, acc3, z1, z2, z3, z4⟩, fun v H3 hy => ?_⟩
    obtain ⟨d', B3, hd', e3, w3, hv⟩ := it.yld R2 _ B' H' i v H3 e2 w2 hlt hy
    rw [hd] at hd'
    cases hd'
    refine ⟨B3, wipeD ρ vs, d, _, w3.ex, sl1.mono (e2.trans e3), hv, q2, fun σ2 ρ2 sb sl2 q3 => ⟨wipe_same (sb.mono hj), ?_⟩⟩
    refine ⟨R2, _, B3, ρ2, _, noX, w3, sl2, q3, fun R4 b H4 B4 e4 w4 q4 => ?_, XL.no⟩
    cases b with
    | true =>
      refine ⟨R4, _, B4, ρ2, _, noX, w4, sl2.mono e4, q4, fun R5 y H5 B5 dy e5 w5 hyd ⟨hz, q5⟩ => ?_, XL.no⟩
      have l1 : av.length = acc.length := ha.length
      refine ⟨av, w5.fz _ _ upd_same, by rw [l1]; exact hz, R5, B5, av ++ [y], acc ++ [dy], (((e2.trans e3).trans e4).trans e5), ?_, ((ha.mono ((e3.trans e4).trans e5)).append (.cons hyd .nil)), q5⟩
      have w6 := w5.turn (p := Dl) (o := .lst (av ++ [y])) (u := .lst av) upd_same (fun _ z => by cases z)
      rw [upd_upd] at w6
      exact w6
    | false => exact ⟨R4, B4, av, acc, ((e2.trans e3).trans e4), w4, ha.mono (e3.trans e4), q4⟩
  · refine .inl ⟨it.stop R2 _ B' H' i e2 w2 (by omega), ?_⟩
    have hdr : ds.drop i = [] := List.drop_eq_nil_of_le (by omega)
    rw [hdr] at q2
    exact hN R2 B' H' av acc (e0.trans e2) w2 ha q2
def lc2Go (g : DG) (tt : DB) (ti1 : DI) (g1 : DG) (tt1 : DB) (te : DT) (vs1 : List Nat) (ρ : Env) : List D → List D → Res → (Res → List D → Prop) → Prop
  | [], acc, R, Q => Q R acc
  | d :: r, acc, R, Q => g d ρ fun ρ2 => tt R ρ2 (fun R b => if b = true then ti1 R ρ2 (fun R ds1 => lcGo g1 tt1 te (wipeD ρ2 vs1) ds1 acc R fun R acc' => lc2Go g tt ti1 g1 tt1 te vs1 ρ r acc' R Q) noX else lc2Go g tt ti1 g1 tt1 te vs1 ρ r acc R Q) noX
def dLc2 (ti : DI) (g : DG) (tt : DB) (ti1 : DI) (g1 : DG) (tt1 : DB) (te : DT) (vs vs1 : List Nat) : DT := fun R ρ Q E => ti R ρ (fun R ds => lc2Go g tt ti1 g1 tt1 te vs1 (wipeD ρ vs) ds [] R fun R out => Q R (.lst out)) E
theorem lc2_lift {M : Md} {ti ti1 : DI} {g g1 : DG} {tt tt1 : DB} {te : DT} {vs vs1 js js1 : List Nat} (hj : ∀ i ∈ js, i ∈ vs) (hj1 : ∀ i ∈ js1, i ∈ vs1) {σ : L2.St} {H : Hp} {Q : VK} (h : lift M W (dLc2 ti g tt ti1 g1 tt1 te vs vs1) σ H Q) :
    tLc2 (liftI M W ti) (liftG M js g) (liftB M W0 tt) (liftI M W0 ti1) (liftG M js1 g1) (liftB M W0 tt1) (lift M W0 te) vs vs1 σ H Q := by
  obtain ⟨R, Fz, B, ρ, Qd, E, w, sl, q, k, x⟩ := h
  refine ⟨R, Fz, B, ρ, _, E, w, sl, q, fun R1 J H1 B1 ds e1 w1 it q1 Dl hD => ?_, x⟩
  have sl1 := (sl.mono e1).wipe vs
  refine ⟨fun i m H' => m = ds.length - i ∧ i ≤ ds.length ∧ ∃ R B' av acc, Ex B1 B' ∧ Wd R B' (L2.upd Fz Dl (.lst av)) H' ∧ Dps M B' av acc ∧ lc2Go g tt ti1 g1 tt1 te vs1 (wipeD ρ vs) (ds.drop i) acc R (fun R out => Qd R (.lst out)),
    ⟨ds.length, by omega, Nat.zero_le _, R1, B1, [], [], Ex.refl _, w1.own hD, .nil, q1⟩, ?_⟩
  rintro i m H' ⟨hm, hi, R2, B', av, acc, e2, w2, ha, q2⟩
  by_cases hlt : i < ds.length
  · obtain ⟨d, hd⟩ := get_lt hlt
    have hdr : ds.drop i = d :: ds.drop (i + 1) := by
      rw [List.drop_eq_getElem_cons hlt]
      congr 1
      rw [List.getElem?_eq_getElem hlt] at hd
      exact Option.some.inj hd
    rw [hdr] at q2
    refine .inr ⟨it.go R2 _ B' H' i e2 w2 hlt, fun H3 => ∃ R3 B3 av3 acc3, Ex B1 B3 ∧ Wd R3 B3 (L2.upd Fz Dl (.lst av3)) H3 ∧ Dps M B3 av3 acc3 ∧ lc2Go g tt ti1 g1 tt1 te vs1 (wipeD ρ vs) (ds.drop (i + 1)) acc3 R3 (fun R out => Qd R (.lst out)),
      fun H3 ⟨R3, B3, av3, acc3, z1, z2, z3, z4⟩ => ⟨ds.length - (i + 1), by omega, rfl, hlt, R3, B3, av3, acc3, z1, z2, z3, z4⟩, fun v H3 hy => ?_⟩
    obtain ⟨d', B3, hd', e3, w3, hv⟩ := it.yld R2 _ B' H' i v H3 e2 w2 hlt hy
    rw [hd] at hd'
    cases hd'
    refine ⟨B3, wipeD ρ vs, d, _, w3.ex, sl1.mono (e2.trans e3), hv, q2, fun σ2 ρ2 sb sl2 q3 => ⟨wipe_same (sb.mono hj), ?_⟩⟩
    refine ⟨R2, _, B3, ρ2, _, noX, w3, sl2, q3, fun R4 b H4 B4 e4 w4 q4 => ?_, XL.no⟩
    cases b with
    | true =>
      refine ⟨R4, _, B4, ρ2, _, noX, w4, sl2.mono e4, q4, fun R5 J1 H5 B5 ds1 e5 w5 it1 q5 => ?_, XL.no⟩
      exact lc_inner hj1 w5 (((e2.trans e3).trans e4).trans e5) it1 ((sl2.mono e4).mono e5) (ha.mono ((e3.trans e4).trans e5)) q5 fun R6 B6 H6 av6 acc6 z1 z2 z3 z4 => ⟨R6, B6, av6, acc6, z1, z2, z3, z4⟩
    | false => exact ⟨R4, B4, av, acc, ((e2.trans e3).trans e4), w4, ha.mono (e3.trans e4), q4⟩
  · refine .inl ⟨it.stop R2 _ B' H' i e2 w2 (by omega), ?_⟩
    have hdr : ds.drop i = [] := List.drop_eq_nil_of_le (by omega)
    rw [hdr] at q2
    have w3 := w2.give (p := Dl) (o := .lst av) upd_same (fun _ z => by cases z)
    have hF : cutH (L2.upd Fz Dl (.lst av)) Dl = Fz := by
      funext z
      by_cases hz : z = Dl
      · subst hz; rw [cutH_same]; exact (w1.fz.free hD).symm
      · rw [cutH_ne hz, upd_ne hz]
    rw [hF] at w3
    have hB : B' Dl = none := w2.dis _ _ upd_same
    exact k R2 _ _ _ _ (e1.trans (e2.trans (Ex.new hB))) w3 (.lst upd_same (ha.mono (Ex.new hB))) q2
theorem de_lc2 {iter elt tg1 iter1 : Expr} {ifs ifs1 : List Expr} {scope : Scope} {own : List (Str × Nat)} {vs1 js1 : List Nat} {ti ti1 : DI} {g1 : DG} {tt tt1 : DB} {te : DT} (hc : X.calm = true) (hN : X.N.Nodup) (hi : DIt X W tg iter ti) (ok : BlkOk X.N X.env.scope scope own) (hv : ∀ i ∈ vs1, i ∈ own.map (·.2))
    (hg : ∀ (s : Shared) (H : Hp) (C : Addr) (cl : List (Str × Addr)) (fp : List Addr), DGt (X.blk s H scope (compEnvC scope cl C X.env) fp) js tg g) (ht : ∀ (s : Shared) (H : Hp) (C : Addr) (cl : List (Str × Addr)) (fp : List Addr), PTs (X.blk s H scope (compEnvC scope cl C X.env) fp) ifs (liftB X.md W0 tt))
    (hi1 : ∀ (s : Shared) (H : Hp) (C : Addr) (cl : List (Str × Addr)) (fp : List Addr), DIt (X.blk s H scope (compEnvC scope cl C X.env) fp) W0 tg1 iter1 ti1) (hg1 : ∀ (s : Shared) (H : Hp) (C : Addr) (cl : List (Str × Addr)) (fp : List Addr), DGt (X.blk s H scope (compEnvC scope cl C X.env) fp) js1 tg1 g1)
    (ht1 : ∀ (s : Shared) (H : Hp) (C : Addr) (cl : List (Str × Addr)) (fp : List Addr), PTs (X.blk s H scope (compEnvC scope cl C X.env) fp) ifs1 (liftB X.md W0 tt1)) (he : ∀ (s : Shared) (H : Hp) (C : Addr) (cl : List (Str × Addr)) (fp : List Addr), DE (X.blk s H scope (compEnvC scope cl C X.env) fp) W0 elt te)
    (hj : ∀ i ∈ js, i ∈ own.map (·.2) := by decide) (hj1 : ∀ i ∈ js1, i ∈ vs1 := by decide) (hs : ∀ x, foldedSetIterable iter X.env x = pure x := by intro _; rfl) (hs1 : ∀ env x, foldedSetIterable iter1 env x = pure x := by intro _ _; rfl) :
    DE X W (.ListComp elt [⟨tg, iter, ifs, 0⟩, ⟨tg1, iter1, ifs1, 0⟩] scope pos) (dLc2 ti g tt ti1 g1 tt1 te (own.map (·.2)) vs1) :=
  (pe_lc2 hc hN hi ok hv hg ht hi1 hg1 ht1 he hs hs1).imp fun _ _ _ h => lc2_lift hj hj1 h
end
end DL

set_option Elab.async false
set_option linter.all false
set_option maxRecDepth 100000
set_option maxHeartbeats 1000000
namespace DL
open PySem PySem.W PySem.Calls
section
variable {M : Model} {prog : Program} {w : World} {A : Around} {E : Value → Shared → Prop} {R : Result → Shared → Prop} {hp : Heap} {gs : Array GenState} {dr : Drawn} {tk : Nat} {os : OsState}
variable {nm qn : Str} {C Nc : Addr} {bs bm bmB : List Value} {hd : Bool} {sn : List Str} {sub : List Value} {ab : Bool} {col : Option Bool} {dd : Option Addr} {k0 k1 k2 k3 k5 : Option Value} {B newId initId : String}
theorem xk_check (F : ExcBaseFacts B newId initId bmB) (hT : ∀ Y : String, bm.contains (.type Y) = bmB.contains (.type Y)) {us : List Value} {kw : List (Str × Value)} {Q : Unit → Shared → Prop}
    (hC : hp.get? C = some (excClassObj nm qn C Nc bs bm hd sn sub ab col dd k0 k1 k2 k3 k5 newId)) (hq : Q () ⟨hp, gs, dr, tk, os⟩) :
    wpAny M A (checkBuiltinCall newId ⟨.ref C :: us, kw⟩) Q E ⟨hp, gs, dr, tk, os⟩ := by
  have h1 : (Value.ref C :: bm).contains (.type B) = true := by
    rw [List.contains_cons, hT, F.hasB]; exact Bool.or_true _
  have h2 := F.noStar
  simp only [checkBuiltinCall, F.newKind, F.newSplit, F.newRow]
  repeat (first
    | refine wpAny_loadPart_at hC ?_
    | (refine wpAny_isSubtype_exc hC ?_; rw [h1])
    | refine wpAny_staticBase_exc hC ?_
    | refine wpAny_madeBy_exc hC ?_
    | simp only [bne_self_eq_false, Bool.false_eq_true, if_false] | wp_step)
  exact hq
theorem xk_new (F : ExcBaseFacts B newId initId bmB) (hT : ∀ Y : String, bm.contains (.type Y) = bmB.contains (.type Y)) {us : List Value} {kw : List (Str × Value)}
    (hC : hp.get? C = some (excClassObj nm qn C Nc bs bm hd sn sub ab col dd k0 k1 k2 k3 k5 newId))
    (hq : R (.ok (.ret (.ref (hp.objs.size + 1)))) ⟨(hp.push (kdv_tup us)).push (HandSPX.excO C hp.objs.size), gs, dr, tk, os⟩) (hz : us.length ≤ sizeLine) :
    codeAny (model prog w) A (.builtin newId ⟨.ref C :: us, kw⟩) R ⟨hp, gs, dr, tk, os⟩ := by
  have he := F.ends
  have h1 : (Value.ref C :: bm).contains (.type B) = true := by
    rw [List.contains_cons, hT, F.hasB]; exact Bool.or_true _
  have h2 : (Value.ref C :: bm).contains (.type "AttributeError") = false := by
    rw [List.contains_cons, hT, F.noAttr]; rfl
  have h3 : (Value.ref C :: bm).contains (.type "NameError") = false := by
    rw [List.contains_cons, hT, F.noName]; rfl
  refine codeAny_builtinAt F.entry ?_
  unfold Builtin.«BaseException.__new__»
  refine wpAt_bind ?_
  show wpAt _ _ _ (stack >>= _) _ _ _
  refine wpAt_bind (wpAt_stack fun pp below => wpAt_of_wpAny ?_)
  wp_walk
  refine wpAt_of_wpAny ?_
  rw [F.owner]
  repeat (first
    | with_reducible refine wpAny_madeHere_exc F.canon hC ?_
    | with_reducible refine wpAny_loadPart_at hC ?_
    | (with_reducible refine wpAny_isSubtype_exc hC ?_; first | rw [h1] | rw [h2] | rw [h3])
    | wp_step)
  show R _ _
  rw [Heap.size_push]
  exact hq
theorem xk_type (F : ExcBaseFacts B newId initId bmB) (hT : ∀ Y : String, bm.contains (.type Y) = bmB.contains (.type Y)) {us : List Value} {kw : List (Str × Value)} {fI : Addr} {Q : Fin → Shared → Prop}
    (hC : hp.get? C = some (excClassObj nm qn C Nc bs bm hd sn sub ab col dd k0 k1 k2 k3 k5 newId))
    (hi : Looks (model prog w) hp (typeLookup (.ref C) "__init__") (some (.ref fI))) (hb : ∀ x, Looks (model prog w) hp (bindSpecial (.ref fI) x) (.ref fI, [x])) (hz : us.length ≤ sizeLine)
    (hq : codeAny (model prog w) A (.call (.ref fI) ⟨.ref (hp.objs.size + 1) :: us, kw⟩)
      (fun r s' => match r with | .ok (.ret v) => v = .none ∧ Q (.done (.ret (.ref (hp.objs.size + 1)))) s' | .ok _ => False | .error e => E e s')
      ⟨(hp.push (kdv_tup us)).push (HandSPX.excO C hp.objs.size), gs, dr, tk, os⟩) :
    wpAny (model prog w) A (Builtin.«type.__call__» ⟨.ref C :: us, kw⟩) Q E ⟨hp, gs, dr, tk, os⟩ := by
  repeat (first
    | with_reducible refine wpAny_loadPart_at hC ?_
    | with_reducible refine wpAny_madeBy_exc hC ?_
    | wp_step)
  refine codeAny_call_builtin_code (Code.quiet_builtin _ F.quiet) (xk_check F hT hC ?_)
  refine xk_new F hT hC ?_ hz
  show wpAny _ _ _ _ _ _
  have kp : ∀ b o, hp.get? b = some o → ((hp.push (kdv_tup us)).push (HandSPX.excO C hp.objs.size)).get? b = some o := fun b o e =>
    Heap.get?_push_of_some _ (Heap.get?_push_of_some _ e)
  have c1 := kp _ _ hC
  have g1 : ((hp.push (kdv_tup us)).push (HandSPX.excO C hp.objs.size)).get? (hp.objs.size + 1) = some (HandSPX.excO C hp.objs.size) := by
    heap_get
  have cc : (Value.ref C :: bm).contains (.ref C) = true := by simp
  have i1 := hi.keeps kp
  have b1 := (hb (.ref (hp.objs.size + 1))).keeps kp
  unfold isInstance
  repeat (first
    | with_reducible refine wpAny_loadPart_at g1 ?_
    | (with_reducible refine wpAny_isSubtype_exc c1 ?_; rw [cc])
    | wp_step)
  show wpAny _ _ (typeLookup (.ref C) _) _ _ _
  refine i1.at ?_
  refine wpAny_holding (wpAny_bind (b1.at ?_))
  refine wpAny_bind (wpAny_call (codeAny_mono hq fun r s' z => ?_))
  rcases r with e | (v | _ | _ | _) <;> first | exact z | exact z.elim | skip
  obtain ⟨rfl, z⟩ := z
  first
    | exact wpAny_pure (wpAny_pure z)
    | (wp_walk; exact z)
/-- C(.., f=..), C an exception class of one's own with its own __init__ -/
theorem xk_call (F : ExcBaseFacts B newId initId bmB) (hT : ∀ Y : String, bm.contains (.type Y) = bmB.contains (.type Y)) {us : List Value} {kw : List (Str × Value)} {fI : Addr}
    (hC : hp.get? C = some (excClassObj nm qn C Nc bs bm hd sn sub ab col dd k0 k1 k2 k3 k5 newId))
    (hi : Looks (model prog w) hp (typeLookup (.ref C) "__init__") (some (.ref fI))) (hb : ∀ x, Looks (model prog w) hp (bindSpecial (.ref fI) x) (.ref fI, [x])) (hz : us.length ≤ sizeLine)
    (hq : codeAny (model prog w) (A.under (.builtin "type.__call__" ⟨.ref C :: us, kw⟩)) (.call (.ref fI) ⟨.ref (hp.objs.size + 1) :: us, kw⟩) (InitBack (hp.objs.size + 1) R)
      ⟨(hp.push (kdv_tup us)).push (HandSPX.excO C hp.objs.size), gs, dr, tk, os⟩) :
    codeAny (model prog w) A (.call (.ref C) ⟨us, kw⟩) R ⟨hp, gs, dr, tk, os⟩ := by
  have f1 := tc_lookup
  have f2 := tc_bind (.ref C)
  have ty : (⟨hp, gs, dr, tk, os⟩ : Shared).TypeIs (.ref C) "type" := ⟨_, hC, rfl⟩
  refine codeAny_of_tree ?_
  show wpAny _ _ (callAny (.ref C) _) _ _ _
  repeat (any_goals (first
    | assumption
    | with_reducible refine wpAny_loadPart_at hC ?_
    | wp_step))
  refine ⟨rfl, ?_⟩
  refine codeAny_call_builtin_at (Code.quiet_builtin _ (by decide +kernel)) entry_typeCall (wpAny_check_type_call_sub hC (xk_type F hT hC hi hb hz ?_))
  refine codeAny_mono hq fun r s' z => ?_
  rcases r with e | (v | _ | _ | _) <;> exact z
end
end DL

set_option Elab.async false
set_option linter.all false
set_option maxRecDepth 100000
set_option maxHeartbeats 1000000
namespace DL
open PySem PySem.W PySem.Calls
/-- what the text of such an __init__ is -/
structure XcS (st : Stmt) (fld : Str) : Prop where
  body : ∃ (p0 p1 p2 p3 p4 p5 q0 q1 q2 q3 : Pos) (msg : Str) (j : Nat), (p2.endLine == p4.line) = true ∧ L2.defBody st = [.Expr (.Call (.Attribute (.Call (.Name "super" p0) [] [] p1) "__init__" p2) [.Constant (.str msg) j p3] [] p4) p5, .Assign [.Attribute (.Name "self" q0) fld q1] (.Name fld q2) q3]
  kind : (L2.defScope st).kind = .function
  co : (L2.defScope st).isCoroutine = false
  gen : (L2.defScope st).isGenerator = false
  cell : ∀ y ∈ (L2.defScope st).names, y.2 ≠ .cell
  sup : (L2.defScope st).names.lookup ("super" : Str) = some .globalImplicit
  cls : (L2.defScope st).names.lookup ("__class__" : Str) = some .free
  slf : (L2.defScope st).names.lookup ("self" : Str) = some .local
  par : (L2.defScope st).names.lookup fld = some .local
  ne : fld ≠ "self"
  dbg : (fld == ("__debug__" : Str)) = false
  hd : ∃ ar : Arg, ((L2.defArgs st).posonlyargs ++ (L2.defArgs st).args).head? = some ar ∧ ar.arg = "self"
  bpos : ∀ (qn : Str) (kV doc pm : Value) (an : Option Addr) (cdv ct : Value) (cc : Addr) (a u : Value), bindArgs (ksFn "__init__" qn (L2.defArgs st) (L2.defBody st) (L2.defScope st) .none kV doc pm an cdv ct cc) ⟨[a, u], []⟩ = pure [(("self" : Str), a), (fld, u)]
  bkw : ∀ (qn : Str) (kV doc pm : Value) (an : Option Addr) (cdv ct : Value) (cc : Addr) (a u : Value), bindArgs (ksFn "__init__" qn (L2.defArgs st) (L2.defBody st) (L2.defScope st) .none kV doc pm an cdv ct cc) ⟨[a], [(fld, u)]⟩ = pure [(("self" : Str), a), (fld, u)]
/-- what the heap's written part says of the class -/
structure XcK (prog : Program) (K : Frag) (st : Stmt) (fld : Str) (C fI : Addr) : Prop where
  base : ∃ (B newId initId : String) (bmB : List Value), ExcBaseFacts B newId initId bmB ∧ KxsFacts B initId ∧ StoreFacts B bmB "object.__setattr__" "object" ∧ excInitIn K C bmB newId = true ∧ excOver K C bmB = true ∧
    ks_superIn K C C "__init__" = some (some (.builtin initId)) ∧ subIn K (.ref C) (.type B) = some true
  hd : hasDictIn K C = true
  sa : findIn K (.ref C) "__setattr__" = some (some (.builtin "object.__setattr__"))
  own : mroIn K C (.ref C) = some true
  noat : findIn K (.ref C) fld = some none
  opq : nsIn K cStatics "thirdparty.any" = some none
  kp : keepIn K (.ref C) = true
  iC : findIn K (.ref C) "__init__" = some (some (.ref fI))
  tI : typeIn K (.ref fI) = some (.type "function")
  code : ∃ (oc : Value) (od : Option Addr) (osl : Array (Option Value)) (qn : Str) (kV doc pm : Value) (an : Option Addr) (cda : Addr) (ct : Value) (cc : Addr), K.lookup fI = some ⟨oc, od, .func (ksFn "__init__" qn (L2.defArgs st) (L2.defBody st) (L2.defScope st) .none kV doc pm an (.ref cda) ct cc), osl⟩ ∧
    codeIn K (.ref cda) qn = true ∧ (∃ (ccl : Value) (cdd : Option Addr) (vs : Array Value) (ccs : Array (Option Value)) (file : Str) (tf : Tok), K.lookup cda = some ⟨ccl, cdd, .fields vs, ccs⟩ ∧ vs[2]? = some (.str file tf) ∧ ((prog.main.file : Str) == file) = true) ∧
    ∃ (cl : Value) (cld : Option Addr) (csl : Array (Option Value)), K.lookup cc = some ⟨cl, cld, .cell (some (.ref C)), csl⟩
  top : (prog.main.scope.names.lookup ("super" : Str)).isSome = false
section
variable {M : Model} {prog : Program} {w : World} {A : Around} {E : Value → Shared → Prop} {R : Result → Shared → Prop} {hp : Heap} {gs : Array GenState} {dr : Drawn} {tk : Nat} {os : OsState} {K : Frag} {C : Addr} {B newId initId : String} {bmB : List Value}
abbrev excV (C t1 : Addr) (d : Option Addr) : Obj := { cls := .ref C, dict := d, data := .fields #[.ref t1, .none, .none, .none, .bool false, .none] }
/-- self.name = v: the first field -/
theorem xk_store {x t1 : Addr} {name : Str} {tx : Tok} {v : Value} (SF : StoreFacts B bmB "object.__setattr__" "object") (X : K.In hp) (hx : hp.get? x = some (excV C t1 none)) (ho : excOver K C bmB = true) (hh : hasDictIn K C = true) (hn : findIn K (.ref C) name = some none)
    (hq : ∀ h' tk' dx, (∀ b o, b ≠ x → hp.get? b = some o → h'.get? b = some o) → hp.objs.size ≤ dx → dx ≠ x → h'.get? x = some (excV C t1 (some dx)) →
      h'.Ns1 dx (fun y => if y = name then some v else none) → R (.ok (.ret .none)) ⟨h', gs, dr, tk', os⟩) :
    codeAny (model prog w) A (.call (.builtin "object.__setattr__") ⟨[.ref x, .str name tx, v], []⟩) R ⟨hp, gs, dr, tk, os⟩ := by
  have I : InstAt hp x (excV C t1 none) C none := ⟨hx, rfl, rfl, trivial⟩
  refine osa_openX (s := ⟨hp, gs, dr, tk, os⟩) (r := none) SF X I ho (by unfold takerIn; rw [hn]; rfl) fun b => ?_
  have hxs : x ≠ hp.objs.size := Nat.ne_of_lt (Heap.lt_size hx)
  obtain ⟨cd, hc, hdt⟩ : ∃ cd, clsIn K C = some cd ∧ cd.hasDict = true := by
    unfold hasDictIn at hh
    cases q : clsIn K C with
    | none => rw [q] at hh; cases hh
    | some cd => rw [q] at hh; exact ⟨cd, rfl, hh⟩
  have hcl : Looks (model prog w) hp (classData C) cd := looks_clsIn X hc
  obtain ⟨n1, n2, n3, n4, n5, n6, n7, n8, n9, n10, n11⟩ := cd
  dsimp only at hdt
  subst hdt
  show wpAny (model prog w) A.in1 (Builtin.ObjectAttr.storeInOwnDict (.ref x) (.ref C) (.str name tx) name v b) _ _ _
  unfold Builtin.ObjectAttr.storeInOwnDict Builtin.ObjectAttr.ownDictForStores
  repeat (first
    | with_reducible refine HandSPX.store_in_new ?_ ?_
    | with_reducible refine wpAny_loadPart_at hx ?_
    | with_reducible refine hcl.at ?_
    | wp_step)
  · exact ⟨_, #[], _, (Heap.get?_update_ne _ _ _ _ hxs.symm).trans (Heap.get?_push_at rfl rfl), rfl, fun e he => absurd he (by simp), fun _ => rfl⟩
  · intro h' tk' hn' hs
    have hx1 : (hp.push { cls := .type "dict", data := .dict #[] }).get? x = some (excV C t1 none) := Heap.get?_push_of_some _ hx
    refine hq h' tk' hp.objs.size (fun b o hb ho => ?_) (Nat.le_refl _) hxs.symm ?_ hn'
    · exact (hs.2 b (Nat.ne_of_lt (Heap.lt_size ho))).trans ((Heap.get?_update_ne _ _ _ _ hb).trans (Heap.get?_push_of_some _ ho))
    · exact (hs.2 x hxs).trans (Heap.get?_update_self _ hx1 rfl)
end
end DL

set_option Elab.async false
set_option linter.all false
set_option maxRecDepth 100000
set_option maxHeartbeats 1000000
namespace DL
open PySem PySem.W PySem.Calls
theorem ev_meth {o : Expr} {name : Str} {apos pos : Pos} {e : Expr} {env : PySem.Env} (hpl : (apos.endLine == pos.line) = true) (he : starEach [e] env = [(false, eval e env)]) :
    eval (.Call (.Attribute o name apos) [e] [] pos) env = (do
      let ov ← attributeBase o name env (eval o env)
      standAt apos.atName
      let (f, first) ← holding [ov] (getMethod ov name (do return (← importBound o env).getD true))
      callWith pos f first (backTo pos (starEach [e] env)) []) := by
  rw [arm_eval_Call]
  have h1 : methodCallForm ([e].length + ([] : List Keyword).length) (backTo pos (starEach [e] env)) (backToKw pos (keywordEach [] env)) = true := by rw [he]; rfl
  unfold methodCall
  rw [h1]
  unfold methodCallPos
  simp only [hpl, Bool.not_true, Bool.false_or, if_true]
  rfl
section
variable {prog : Program} {w : World} {A : Around} {E : Value → Shared → Prop} {R : Result → Shared → Prop} {hp : Heap} {gs : Array GenState} {dr : Drawn} {tk : Nat} {os : OsState} {K : Frag} {C fI : Addr} {B newId initId : String} {bmB : List Value} {st : Stmt} {fld : Str} {mg : Str → Option Value}
/-- the bound built-in __init__, called -/
theorem xk_bw (FB : ExcBaseFacts B newId initId bmB) {e t0 u : Addr} {us : List Value} {Q : Value → Shared → Prop} (X : K.In hp) (q : excInitIn K C bmB newId = true) (he : hp.get? e = some (excV C t0 none)) (hu : hp.get? u = some (kxs_mw initId e)) (hz : us.length ≤ sizeLine)
    (hq : ∀ h' t1, (∀ b o, b ≠ e → hp.get? b = some o → h'.get? b = some o) → h'.get? e = some (excV C t1 none) → hp.objs.size ≤ h'.objs.size → Q .none ⟨h', gs, dr, tk, os⟩) :
    wpAny (model prog w) A (call (.ref u) us) Q E ⟨hp, gs, dr, tk, os⟩ := by
  obtain ⟨nm, N', qn, bs, bm, hdct, sn, sub, ab, col, dd, k0, k1, k2, k3, k5, hC, hT⟩ := excInit_of X q
  refine wpAny_call (codeAny_of_tree ?_)
  show wpAny _ A.in1 (callAny (.ref u) ⟨us, []⟩) _ _ _
  simp only [callAny]
  refine wpAny_bind (wpAny_load hu ?_)
  simp only [kxs_mw, show (Value.type "method-wrapper" == Value.type "method" || Value.type "method-wrapper" == Value.type "builtin_function_or_method"
    || Value.type "method-wrapper" == Value.type "method-wrapper") = true by decide, if_true]
  refine KFB.if_so (by decide) ?_
  refine wpAny_bind (check_bound_init FB.toExcCallFacts hC he rfl ?_)
  refine wpAny_bind (wpAny_pure (wpAny_pure ?_))
  refine ⟨plainId_quiet FB.init.plain _, codeAny_builtin FB.initEntry ?_⟩
  refine exc_init_tree (cls := .ref C) (t0 := t0) (dv := none) (c2 := .none) (c3 := .none) (b4 := .bool false) he hz fun h' k1 e1 t1 => hq h' hp.objs.size k1 e1 (Nat.le_of_lt (Heap.lt_size t1))
theorem xk_init (S : XcS st fld) (T : XcK prog K st fld C fI) {e t0 : Addr} {u : Value} {ar : Args} (X : K.In hp) (nol : hp.NoLimit) (gl : hp.Ns mainGlobals mg) (hsu : mg "super" = none) (bl : ∃ mb, hp.Ns builtinsNs mb ∧ ∀ x : Str, x ≠ "__name__" → mb x = bootBuiltins x)
    (room : A.depth < recursionLimit) (he : hp.get? e = some (excV C t0 none)) (hke : K.lookup e = none) (har : ar = ⟨[.ref e, u], []⟩ ∨ ar = ⟨[.ref e], [(fld, u)]⟩)
    (hq : ∀ h' tk' dx t1, (∀ b o, b ≠ e → hp.get? b = some o → h'.get? b = some o) → hp.objs.size ≤ dx → dx ≠ e → h'.get? e = some (excV C t1 (some dx)) →
      h'.Ns1 dx (fun y => if y = fld then some u else none) → R (.ok (.ret .none)) ⟨h', gs, dr, tk', os⟩) :
    codeAny (model prog w) A (.call (.ref fI) ar) R ⟨hp, gs, dr, tk, os⟩ := by
  obtain ⟨oc, od, osl, qn, kV, doc, pm, an, cda, ct, cc, lk, hcd, ⟨ccl, cdd, vs, ccs, file, tf, lcode, hvs, hfile⟩, cl, cld, csl, lcell⟩ := T.code
  obtain ⟨B, newId, initId, bmB, FB, KF, SF, hin, hov, hsi, hsb⟩ := T.base
  obtain ⟨p0, p1, p2, p3, p4, p5, q0, q1, q2, q3, msg, j, hpl, hb⟩ := S.body
  obtain ⟨arg, har0, har1⟩ := S.hd
  obtain ⟨mb, bns, bbt⟩ := bl
  have hbind : BindsTo ⟨hp, gs, dr, tk, os⟩ (ksFn "__init__" qn (L2.defArgs st) (L2.defBody st) (L2.defScope st) .none kV doc pm an (.ref cda) ct cc) ar [(("self" : Str), .ref e), (fld, u)] := by
    rcases har with rfl | rfl
    · exact .of_eq (S.bpos ..)
    · exact .of_eq (S.bkw ..)
  refine ks_codeAny_call_defAt (body := L2.defBody st) room (X _ _ lk) rfl nol (codeRec_of X hcd) rfl hbind S.cell (fun y hy => ?_) (fun h1 ns1 k1 => ?_) S.co S.gen S.kind
  · rcases List.mem_cons.mp hy with rfl | hy
    · exact S.slf
    · rcases List.mem_cons.mp hy with rfl | hy
      · exact S.par
      · cases hy
  have X1 : K.In h1 := X.keeps k1
  have he1 := k1 _ _ he
  rw [hb]
  have hkc : (L2.defScope st).names.lookup ("__class__" : Str) = some .free := S.cls
  obtain ⟨cdD, hcC⟩ : ∃ cdD, clsIn K C = some cdD := by
    cases q : clsIn K C with
    | none => have z := T.own; unfold mroIn at z; rw [q] at z; cases z
    | some cd => exact ⟨cd, rfl⟩
  obtain ⟨oD, hD1, hD2⟩ : ∃ oD, h1.get? C = some oD ∧ oD.data = .cls cdD := by
    unfold clsIn at hcC
    split at hcC
    · rename_i ho; cases hcC; exact ⟨_, X1 _ _ ho, rfl⟩
    · cases hcC
  have hns : ∀ y : Str, y = "self" → (fun x => ([(("self" : Str), Value.ref e), (fld, u)] : List (Str × Value)).reverse.lookup x) y = some (.ref e) := by
    rintro y rfl
    have n : (("self" : Str) == fld) = false := by simpa using Ne.symm S.ne
    show (match ("self" : Str) == fld with | true => some u | false => _) = _
    rw [n]; rfl
  refine ks_wpAt_execs_cons (ks_wpAt_Expr_any (ks_wpAt_MethodCall ?_ (ev_meth hpl rfl)) (by show interactive _ = false; unfold interactive; rw [show (callEnv (ksFn "__init__" qn (L2.defArgs st) _ (L2.defScope st) .none kV doc pm an (.ref cda) ct cc) hp.objs.size fI).scope.kind = ScopeKind.function from S.kind]; rfl))
  refine ks_wpAt_super_base (ar := arg) S.sup S.cls (by decide) rfl (X1 _ _ lk) rfl har0 rfl (X1 _ _ lcode) rfl hvs hfile T.top ?_
  refine ks_loadName_global S.kind S.sup (loadGlobal_builtin (gl.keeps k1) hsu (bns.keeps k1) ((bbt _ (by decide)).trans (by decide +kernel)) ⟨rfl, ?_⟩)
  refine wpAny_loadName_free S.kind S.cls rfl ⟨_, X1 _ _ lcell, rfl⟩ ?_
  refine wpAny_loadName_local S.kind (by rw [har1]; exact S.slf) ns1 (hns _ har1) ?_
  refine ks_wpAny_isType_cls hD1 hD2 ⟨rfl, ?_⟩
  refine ks_wpAny_call_super hD1 hD2 he1 rfl (fun c z => by cases z) (looks_mroIn X1 T.own) fun h2 s2 k2 => ?_
  have X2 : K.In h2 := X1.keeps k2
  have he2 := k2 _ _ he1
  have I2 : InstAt h2 e (excV C t0 none) C none := ⟨he2, rfl, rfl, trivial⟩
  have hm : alongIn K "__init__" ((cdD.mro.dropWhile (· != .ref C)).drop 1) = some (some (.builtin initId)) := by
    have z := hsi
    unfold ks_superIn at z
    rw [hcC] at z
    exact z
  refine kxs_getMethod KF s2 (looks_opaque X2 T.opq) (l₀ := cdD.mro) (fun A Q E s k q => wpAny_bind ((looks_clsIn X2 hcC) A _ E s k (wpAny_pure q))) rfl X2 hm (I2.type.andThen (looks_subIn X2 hsb)) (ks_ne X2 I2 hcC) rfl ?_
  have hm2 : (h2.push (kxs_mw initId e)).get? h2.objs.size = some (kxs_mw initId e) := Heap.get?_push_at rfl rfl
  have k3 : ∀ b o, h2.get? b = some o → (h2.push (kxs_mw initId e)).get? b = some o := fun b o z => Heap.get?_push_of_some _ z
  refine kxs_callWith (i := initId) (x := e) rfl (evalArgs_plain (spliced_cons (wpAny_Constant_str (k := j) (pos := p3) (spliced_nil ⟨hm2, ?_⟩))))
  have kA : ∀ b o, hp.get? b = some o → (h2.push (kxs_mw initId e)).get? b = some o := fun b o z => k3 b o (k2 b o (k1 b o z))
  refine xk_bw FB (X.keeps kA) hin (kA _ _ he) hm2 (by show 1 ≤ sizeLine; rw [sizeLine_eq]; omega) fun h4 t1 k4 e4 z4 => ?_
  have kB : ∀ b o, b ≠ e → hp.get? b = some o → h4.get? b = some o := fun b o n z => k4 b o n (kA b o z)
  have neL : hp.objs.size ≠ e := fun z => by
    have := Heap.lt_size he
    rw [z] at this
    exact absurd this (Nat.lt_irrefl _)
  have ns4 : h4.Ns hp.objs.size (fun x => ([(("self" : Str), Value.ref e), (fld, u)] : List (Str × Value)).reverse.lookup x) := ns1.at fun o z => k4 _ o neL (k3 _ o (k2 _ o z))
  have zz : hp.objs.size ≤ h4.objs.size := by
    have a1 : hp.objs.size < h1.objs.size := by
      obtain ⟨o, _, _, z, _⟩ := ns1
      exact Heap.lt_size z
    have a2 : h1.objs.size < h2.objs.size := Heap.lt_size s2
    have a3 : h2.objs.size < (h2.push (kxs_mw initId e)).objs.size := Heap.lt_size hm2
    have a4 : (h2.push (kxs_mw initId e)).objs.size ≤ h4.objs.size := z4
    omega
  have hfl : ([(("self" : Str), Value.ref e), (fld, u)] : List (Str × Value)).reverse.lookup fld = some u := by
    show (match fld == fld with | true => some u | false => _) = _
    rw [beq_self_eq_true]
  refine PySem.wpAt_of_wpAny (wpAny_execs_cons (plainObj_wpAny_Assign_Attribute ?_ rfl))
  refine wpAny_Name (wpAny_loadName_local S.kind S.par ns4 hfl ?_) S.dbg
  refine wpAny_Name (wpAny_loadName_local S.kind S.slf ns4 (hns _ rfl) ?_)
  have X4 : K.In h4 := fun a o z => kB a o (fun q => by rw [q, hke] at z; cases z) (X a o z)
  refine set_plain (ox := excV C t1 none) (od := none) X4 ⟨e4, rfl, rfl, trivial⟩ T.sa ?_
  refine xk_store SF X4 e4 hov T.hd T.noat fun h5 tk5 dx k5 z5 n5 e5 ns5 => ?_
  refine wpAny_execs_nil ?_
  exact hq h5 _ dx t1 (fun b o n z => k5 b o n (kB b o n z)) (Nat.le_trans zz z5) n5 e5 ns5
end
end DL

set_option Elab.async false
set_option linter.all false
set_option maxRecDepth 100000
set_option maxHeartbeats 1000000
namespace DL
open PySem L2
section
variable {X : Cx} {W : WX} {a b e : Expr} {es : List Expr} {ta tb t : DT} {tr : DA} {pos p : Pos} {st : Stmt} {fld : Str} {C fI : Addr}
theorem un_two {H : Hp} {hp h' : Heap} {fs : List Addr} {q dx : Addr} {oa od : HO} (kk : ∀ b o, hp.get? b = some o → h'.get? b = some o) (ha : hp.objs.size ≤ q) (hd : hp.objs.size ≤ dx) (na : H q = none) (nd : H dx = none) : Un fs [] H (upd (upd H dx od) q oa) hp h' where
  keep := fun b o z _ _ _ => kk b o z
  slot := fun b o z _ _ _ => ⟨o.slots, kk b o z⟩
  free := fun b o z n _ => by
    have z1 : b < hp.objs.size := Heap.lt_size z
    rw [upd_ne (Nat.ne_of_lt (Nat.lt_of_lt_of_le z1 ha)), upd_ne (Nat.ne_of_lt (Nat.lt_of_lt_of_le z1 hd))]; exact n
  there := fun b o z _ => ⟨o, kk b o z⟩
  tups := fun b xs z => by rw [upd_ne (ne_of_none z na), upd_ne (ne_of_none z nd)]; exact z
  frzs := fun b o v z => by rw [upd_ne (ne_of_none z na), upd_ne (ne_of_none z nd)]; exact z
  tbls := fun b ps z => ⟨#[], by rw [upd_ne (ne_of_none z na), upd_ne (ne_of_none z nd), z]; simp⟩
/-- an exception made: its dict, then itself -/
def rMk (C : Addr) (fld : Str) (v : V) (H : Hp) (Q : VK) : Prop := ∀ q dx, H q = none → H dx = none → dx ≠ q → Q (.ref q) (upd (upd H dx (exd dx [(fld, v)])) q (exo q C (some dx)))
theorem mk_run {k : Nat} (S : XcS st fld) (T : XcK X.prog X.K st fld C fI) (hsu : X.mg "super" = none) (hr : Room (k + 1) X.A) {pins : List (Addr × Obj)} {σ : L2.St} {H : Hp} {s : Shared} {Q : VK} {v : V} {u : Value} {us : List Value} {kw : List (Str × Value)}
    (hu : (us = [u] ∧ kw = []) ∨ (us = [] ∧ kw = [(fld, u)])) (I : Inv X pins σ H s) (r : RelV v u) (h : rMk C fld v H Q) : wpAny (model X.prog X.w) X.A (call (.ref C) us kw) (EP X pins σ Q) X.xe s := by
  obtain ⟨B, newId, initId, bmB, FB, KF, SF, hin, hov, hsi, hsb⟩ := T.base
  obtain ⟨nm, Nc, qn, bs, bm, hd, sn, sub, ab, col, dd, k0, k1, k2, k3, k5, hC, hT⟩ := PySem.W.excInit_of I.kIn hin
  obtain ⟨hp, gs, dr, tk, os⟩ := s
  have kk : ∀ b o, hp.get? b = some o → ((hp.push (PySem.W.kdv_tup us)).push (PySem.HandSPX.excO C hp.objs.size)).get? b = some o := fun b o z => Heap.get?_push_of_some _ (Heap.get?_push_of_some _ z)
  have hg : ((hp.push (PySem.W.kdv_tup us)).push (PySem.HandSPX.excO C hp.objs.size)).get? (hp.objs.size + 1) = some (PySem.HandSPX.excO C hp.objs.size) := by heap_get
  have sz : ((hp.push (PySem.W.kdv_tup us)).push (PySem.HandSPX.excO C hp.objs.size)).objs.size = hp.objs.size + 2 := by rw [Heap.size_push, Heap.size_push]
  have I2 : Inv X pins σ H ⟨(hp.push (PySem.W.kdv_tup us)).push (PySem.HandSPX.excO C hp.objs.size), gs, dr, tk, os⟩ := I.kept (t' := tk) kk
  obtain ⟨mb, h1, h2⟩ := I2.mod.blt
  refine wpAny_call (xk_call FB hT hC (PySem.W.looks_findIn I.kIn T.iC) (fun x => PySem.W.bind_fn I.kIn x T.tI) (by rcases hu with ⟨rfl, _⟩ | ⟨rfl, _⟩ <;> simp [sizeLine_eq]) ?_)
  refine xk_init S T I2.kIn (I2.mod.nolimit.keeps I2.bk) (I2.mod.glob.keeps I2.bk) hsu ⟨mb, h1.keeps I2.bk, h2⟩ (hr.make C us kw).depth hg ?_ (u := u) ?_ fun h' tk' dx t1 k z ne he ns => ?_
  · cases q : X.K.lookup (hp.objs.size + 1) with
    | none => rfl
    | some o => exact absurd (Heap.lt_size (I.kIn _ _ q)) (by show ¬ (hp.objs.size + 1 < hp.objs.size); omega)
  · rcases hu with ⟨rfl, rfl⟩ | ⟨rfl, rfl⟩
    · exact .inl rfl
    · exact .inr rfl
  · have kf : ∀ b o, hp.get? b = some o → h'.get? b = some o := fun b o q => k b o (Nat.ne_of_lt (Nat.lt_succ_of_lt (Heap.lt_size q))) (kk b o q)
    have nq : H (hp.objs.size + 1) = none := I.hok.fresh (by show hp.objs.size ≤ hp.objs.size + 1; omega)
    have zd : hp.objs.size ≤ dx := Nat.le_trans (by rw [sz]; exact Nat.le_add_right _ _) z
    have nd : H dx = none := I.hok.fresh zd
    have hok : HOk X.prog X.w (upd (upd H dx (exd dx [(fld, v)])) (hp.objs.size + 1) (exo (hp.objs.size + 1) C (some dx))) h' := fun b o q => by
      by_cases hb : b = hp.objs.size + 1
      · subst hb; rw [upd_same] at q; cases q; exact exo_ok he
      · rw [upd_ne hb] at q
        by_cases hd : b = dx
        · subst hd; rw [upd_same] at q; cases q
          exact exd_ok ns (relO_put (fs := []) r fun g => True.intro)
        · rw [upd_ne hd] at q
          exact (I.hok b o q).stay (fun c w _ y => kf c w y) (fun c y => by rw [upd_ne (ne_of_none y nq), upd_ne (ne_of_none y nd)]; exact y) fun c xs y => by rw [upd_ne (ne_of_none y nq), upd_ne (ne_of_none y nd)]; exact y
    exact ⟨rfl, .ref _, _, I.un (t' := tk') (un_two kf (by show hp.objs.size ≤ hp.objs.size + 1; omega) zd nq nd) hok, rfl, h _ dx nq nd ne⟩
end
end DL
namespace DL
open PySem L2
section
variable {X : Cx} {W : WX} {a b e : Expr} {es : List Expr} {ta tb t : DT} {tr : DA} {pos p : Pos} {st : Stmt} {fld : Str} {C fI : Addr}
def tMk (C : Addr) (fld : Str) (te : TE) : TE := fun σ H Q => te σ H fun v H1 => rMk C fld v H1 Q
theorem pe_mkP {k : Nat} {x : Str} {te : TE} (S : XcS st fld) (T : XcK X.prog X.K st fld C fI) (hsu : X.mg "super" = none) (hr : Room (k + 1) X.A) (hg : Gl X x) (hm : X.mg x = some (.ref C)) (he : PE X e te) (hdb : (x == ("__debug__" : Str)) = false := by decide)
    (h1 : starEach [e] X.env = (false, eval e X.env) :: starEach [] X.env := by rfl) : PE X (.Call (.Name x p) [e] [] pos) (tMk C fld te) :=
  ⟨fun pins s σ H Q I h => wpAny_Call_Name_kw (ld_glob I hg hm (PySem.W.callWith_K (h₀ := X.base) I.ok.mod.kin T.kp (by
    rw [h1]
    refine Calls.spliced_cons (thn (he.run pins s σ H _ I h) fun u s1 ⟨v, H1, I1, r, q⟩ => Calls.spliced_nil ⟨I1.kIn, ?_⟩)
    exact mk_run S T hsu hr (.inl ⟨rfl, rfl⟩) I1 r q) h1 rfl) hdb)⟩
theorem pe_mkK {k : Nat} {x : Str} {te : TE} {pk : Pos} (S : XcS st fld) (T : XcK X.prog X.K st fld C fI) (hsu : X.mg "super" = none) (hr : Room (k + 1) X.A) (hg : Gl X x) (hm : X.mg x = some (.ref C)) (he : PE X e te) (hdb : (x == ("__debug__" : Str)) = false := by decide) :
    PE X (.Call (.Name x p) [] [⟨some fld, e, pk⟩] pos) (tMk C fld te) :=
  ⟨fun pins s σ H Q I h => wpAny_Call_Name_kw (ld_glob I hg hm (PySem.W.callWith_KW0 (h₀ := X.base) I.ok.mod.kin T.kp rfl (by
    show wpAny _ _ (evalAll [do let v ← eval e X.env; standAt pos; pure v]) _ _ _
    refine wpAny_bind (wpAny_bind (thn (he.run pins s σ H _ I h) fun u s1 ⟨v, H1, I1, r, q⟩ => wpAny_bind (wpAny_standAt (wpAny_pure ?_))))
    refine wpAny_bind (wpAny_holding (wpAny_pure (wpAny_pure ⟨I1.kIn, ?_⟩)))
    exact mk_run S T hsu hr (.inr ⟨rfl, rfl⟩) I1 r q)) hdb)⟩
def dMk (c fld : Str) (te : DT) : DT := fun R ρ Q E => te R ρ (fun R d => Q R (.exc c [(fld, d)])) E
theorem mk_lift {M : Md} {x : Str} (hm : M.mg x = some (.ref C)) {σ : L2.St} {H : Hp} {Q : VK} (h : lift M W (dMk x fld t) σ H Q) : tMk C fld (lift M W t) σ H Q := by
  obtain ⟨R, Fz, B, ρ, Qd, E, w, sl, q, k, xl⟩ := h
  refine ⟨R, Fz, B, ρ, _, E, w, sl, q, fun R v H1 B1 d e1 w1 h1 q1 => ?_, xl⟩
  intro z dx nz nd ne
  have n2 : upd H1 dx (exd dx [(fld, v)]) z = none := by rw [upd_ne (Ne.symm ne)]; exact nz
  have w2 := w1.new (o := exd dx [(fld, v)]) nd
  have w3 := w2.new (o := exo z C (some dx)) n2
  have ex : Ex B1 (upd (upd B1 dx (exd dx [(fld, v)])) z (exo z C (some dx))) := (Ex.new (w1.free nd)).trans (Ex.new (w2.free n2))
  refine k R _ _ _ _ (e1.trans ex) w3 (.exc (dx := dx) (vs := [(fld, v)]) hm upd_same ?_ (.cons (h1.mono ex) .nil)) q1
  rw [upd_ne ne]; exact upd_same
/-- C(v), C(f=v) -/
structure XcD (P : Program) (K : PySem.W.Frag) (mg : Str → Option Value) (x fld : Str) : Prop where
  ex : ∃ (st : Stmt) (C fI : Addr), XcS st fld ∧ XcK P K st fld C fI ∧ mg x = some (.ref C)
theorem de_mkP {k : Nat} {x : Str} (T : XcD X.prog X.K X.mg x fld) (hsu : X.mg "super" = none) (hr : Room (k + 1) X.A) (hg : Gl X x) (he : DE X W e t) (hdb : (x == ("__debug__" : Str)) = false := by decide)
    (h1 : starEach [e] X.env = (false, eval e X.env) :: starEach [] X.env := by rfl) : DE X W (.Call (.Name x p) [e] [] pos) (dMk x fld t) :=
  let ⟨_, _, _, S, T, hm⟩ := T.ex
  (pe_mkP S T hsu hr hg hm he hdb h1).imp fun _ _ _ h => mk_lift hm h
theorem de_mkK {k : Nat} {x : Str} {pk : Pos} (T : XcD X.prog X.K X.mg x fld) (hsu : X.mg "super" = none) (hr : Room (k + 1) X.A) (hg : Gl X x) (he : DE X W e t) (hdb : (x == ("__debug__" : Str)) = false := by decide) :
    DE X W (.Call (.Name x p) [] [⟨some fld, e, pk⟩] pos) (dMk x fld t) :=
  let ⟨_, _, _, S, T, hm⟩ := T.ex
  (pe_mkK S T hsu hr hg hm he hdb).imp fun _ _ _ h => mk_lift hm h
end
end DL

set_option Elab.async false
set_option linter.all false
set_option maxRecDepth 100000
set_option maxHeartbeats 1000000
namespace DL
open PySem L2
/-- a class as a value of the text -/
def clsU (mg : Str → Option Value) : D → Value → Prop
  | .cls c, u => mg c = some u ∧ ∃ C, u = .ref C
  | .ty T, u => u = .type T
  | _, _ => False
/-- what isinstance asks of an exception's class -/
structure KitE (K : PySem.W.Frag) (C : Addr) : Prop where
  cl : (PySem.W.clsIn K C).isSome = true
  ga : PySem.W.findIn K (.ref C) "__getattribute__" = some (some (.builtin "BaseException.__getattribute__"))
  gt : PySem.W.findIn K (.ref C) "__getattr__" = some none
  sub : PySem.W.subIn K (.ref C) (.type "BaseException") = some true
  kc : PySem.W.findIn K (.ref C) "__class__" = some (some (.builtin "object.__class__"))
  sp : PySem.W.specialIn K (.builtin "object.__class__") "__get__" = some (some (.builtin "getset_descriptor.__get__"))
  tk : PySem.W.takesIn K (.builtin "object.__class__") = some true
  ob : PySem.W.mroIn K C (.type "object") = some true
  hd : PySem.W.hasDictIn K C = true
/-- S: which class is under which -/
def SubK (K : PySem.W.Frag) (mg : Str → Option Value) (S : Str → D → Option Bool) : Prop := ∀ (c : Str) (k : D) (b : Bool), S c k = some b → ∃ (C : Addr) (u : Value), mg c = some (.ref C) ∧ KitE K C ∧ clsU mg k u ∧ PySem.W.kitOne K (.ref C) u = some b
def fIsiE (S : Str → D → Option Bool) : FC
  | [.exc c _, .tup ks], Q => ks ≠ [] ∧ ∃ bs : List Bool, ks.map (S c) = bs.map some ∧ Q (.bl (bs.any id))
  | [.exc c _, .cls k], Q => ∃ b, S c (.cls k) = some b ∧ Q (.bl b)
  | [.exc c _, .ty k], Q => ∃ b, S c (.ty k) = some b ∧ Q (.bl b)
  | _, _ => False
section
variable {X : Cx} {W : WX} {a b e : Expr} {es : List Expr} {ta tb t : DT} {tr : DA} {pos p : Pos}
theorem exc_at {pins : List (Addr × Obj)} {σ : L2.St} {H : Hp} {s : Shared} {C q dx : Addr} {vs : List (Str × V)} (I : Inv X pins σ H s) (ha : H q = some (exo q C (some dx))) (hd : H dx = some (exd dx vs)) :
    ∃ (oe od : Obj) (mA : Str → Option Value), PySem.W.InstAt s.heap q oe C (some od) ∧ s.heap.get? dx = some od ∧ (∀ n, PySem.W.lookIn n od = some (mA n)) ∧ ∀ f, RelO (vs.lookup f) (mA f) := by
  obtain ⟨t1, ho⟩ := exo_at I.hok ha
  obtain ⟨mA, hns, rel⟩ := exd_at I.hok hd
  obtain ⟨od, h1, h2⟩ := lookIn_ns hns
  exact ⟨_, od, mA, ⟨ho, rfl, rfl, h1⟩, h1, h2, rel⟩
theorem clsU.rel {M : Md} {B : Hp} {v : V} {d : D} {u w : Value} (h : clsU M.mg d u) (hd : Dp M B v d) (r : RelV v w) : w = u := by
  cases hd with
  | cls hm =>
    obtain ⟨h1, _⟩ := h
    rw [hm] at h1
    cases h1
    exact r
  | ty n => cases h; exact r
  | _ => exact h.elim
theorem clsU.all {M : Md} {B : Hp} {S : Str → D → Option Bool} {K : PySem.W.Frag} (hS : SubK K M.mg S) {c : Str} {C : Addr} (hc : M.mg c = some (.ref C)) : ∀ {ks : List D} {vs : List V} {ws : List Value} {bs : List Bool}, Dps M B vs ks → Vals vs ws → ks.map (S c) = bs.map some → PySem.W.kitAny K (.ref C) ws = some (bs.any id)
  | _, _, _, bs, .nil, .nil, h => by
    cases bs with
    | nil => rfl
    | cons _ _ => cases h
  | _, _, _, bs, .cons hd hds, .cons r rs, h => by
    cases bs with
    | nil => cases h
    | cons b bs =>
      obtain ⟨h1, h2⟩ := List.cons.inj h
      obtain ⟨C', u, hm, _, hu, hk⟩ := hS _ _ _ h1
      rw [hc] at hm
      cases hm
      cases hu.rel hd r
      have ih := clsU.all hS hc hds rs h2
      unfold PySem.W.kitAny
      rw [hk]
      cases b with
      | true => rfl
      | false => exact ih
theorem kit_exc {K : PySem.W.Frag} {C : Addr} (T : KitE K C) {x : Addr} {ox : Obj} {od : Option Obj} : PySem.W.KitX K (.ref x) (.ref C) (fun h => PySem.W.InstAt h x ox C od) := PySem.W.kitx_exc T.cl T.ga T.gt T.sub T.kc T.sp T.tk T.ob
theorem call_isiE {S : Str → D → Option Bool} (hS : SubK X.K X.mg S) : CallR X (.builtin "isinstance") (rcOf X.md (fIsiE S)) := by
  rintro pins s σ H xs us Q I r ⟨R, Fz, B, ds, Qd, w, h, hf, k⟩
  have one : ∀ {c : Str} {fs : List (Str × D)} {kd : D} {b : Bool}, ds = [.exc c fs, kd] → S c kd = some b → Qd (.bl b) → wpAny (model X.prog X.w) X.A (call (.builtin "isinstance") us) (EP X pins σ Q) X.xe s := by
    rintro c fs kd b rfl hs hq
    cases h with
    | cons h1 t1 => cases t1 with
      | cons h2 t2 =>
        cases t2
        obtain ⟨u1, u2, rfl, r1, r2⟩ := vals2 r
        obtain ⟨C, u, hm, T, hu, hk⟩ := hS _ _ _ hs
        cases hu.rel h2 r2
        cases h1 with
        | exc hm' ha hd hv =>
          rw [show X.md.mg = X.mg from rfl, hm] at hm'
          cases hm'
          cases r1
          obtain ⟨oe, od, mA, J, _⟩ := exc_at I (w.ex _ _ ha) (w.ex _ _ hd)
          exact PySem.W.kia_one (kit_exc T) I.kIn J hk (fun z => nomatch z) fun tk => ⟨.bl b, H, I.tok tk, rfl, k _ H B _ (Ex.refl B) w (.bl _) hq⟩
  unfold fIsiE at hf
  split at hf
  · obtain ⟨hne, bs, hb, hq⟩ := hf
    cases h with
    | cons h1 t1 => cases t1 with
      | cons h2 t2 =>
        cases t2
        obtain ⟨u1, u2, rfl, r1, r2⟩ := vals2 r
        cases h2 with
        | tup ht hts =>
          cases r2
          obtain ⟨its, rv, ⟨o, ho, hc, n, hd⟩, _⟩ := I.tuple (w.ex.st ht.st)
          cases h1 with
          | exc hm ha hdx hv =>
            cases r1
            obtain ⟨oe, od, mA, J, _⟩ := exc_at I (w.ex _ _ ha) (w.ex _ _ hdx)
            obtain ⟨o1, o2, o3, o4⟩ := o
            simp only at hc hd
            subst hc hd
            have T : ∀ {c : Str} {C : Addr} {ks : List D}, X.md.mg c = some (.ref C) → ks ≠ [] → ks.map (S c) = bs.map some → KitE X.K C := by
              intro c C ks hm hne hb
              cases ks with
              | nil => exact (hne rfl).elim
              | cons k0 kr =>
                cases bs with
                | nil => cases hb
                | cons b0 br =>
                  obtain ⟨C', u, hm', T, _⟩ := hS _ _ _ (List.cons.inj hb).1
                  rw [show X.md.mg = X.mg from rfl, hm'] at hm
                  cases hm
                  exact T
            exact PySem.W.kia_tup (kit_exc (T hm hne hb)) I.kIn J ho (clsU.all (M := X.md) hS hm hts rv hb) (fun z => nomatch z) fun tk => ⟨.bl _, H, I.tok tk, rfl, k _ H B _ (Ex.refl B) w (.bl _) hq⟩
  · obtain ⟨b, hs, hq⟩ := hf; exact one rfl hs hq
  · obtain ⟨b, hs, hq⟩ := hf; exact one rfl hs hq
  · exact hf.elim
theorem de_isiE {S : Str → D → Option Bool} {e2 : Expr} (hS : SubK X.K X.mg S) (hg : Gl X "isinstance") (hm : X.mg "isinstance" = none) (ha : DAs X W [e, e2] tr) (he : starEach [e, e2] X.env = (false, eval e X.env) :: starEach [e2] X.env := by rfl) (hpl : (backTo pos (starEach [e2] X.env)).any (·.1) = false := by rfl) : DE X W (.Call (.Name "isinstance" p) [e, e2] [] pos) (dCB (fIsiE S) tr) :=
  de_callB (call_isiE hS) rcOf_ok hg hm (by decide +kernel) ha (he := he) (hpl := hpl)
/-- a class of the text by its name -/
theorem de_cls {x : Str} (hg : Gl X x) (hm : ∃ C, X.mg x = some (.ref C)) (hd : (x == ("__debug__" : Str)) = false := by decide) : DE X W (.Name x pos) (dC (.cls x)) :=
  let ⟨C, hm⟩ := hm
  de_c (pe_glob (v := .ref C) hg hm rfl hd) fun _ => .cls hm
/-- x.f of an exception -/
def AttK (K : PySem.W.Frag) (mg : Str → Option Value) (A : Str → Str → Bool) : Prop := ∀ c n, A c n = true → ∃ C, mg c = some (.ref C) ∧ KitE K C ∧ PySem.W.findIn K (.ref C) n = some none
def dAtt (A : Str → Str → Bool) (n : Str) (t : DT) : DT := fun R ρ Q E => t R ρ (fun R d => ∃ c fs v, d = .exc c fs ∧ A c n = true ∧ fs.lookup n = some v ∧ Q R v) E
theorem Dpf.look {M : Md} {B : Hp} {n : Str} : ∀ {vs : List (Str × V)} {fs : List (Str × D)} {d : D}, Dpf M B vs fs → fs.lookup n = some d → ∃ v, vs.lookup n = some v ∧ Dp M B v d
  | _, _, _, .nil, h => by cases h
  | _, _, d, .cons (k := k) hv hr, h => by
    rw [List.lookup_cons] at h ⊢
    cases q : n == k with
    | true => rw [q] at h; cases h; exact ⟨_, rfl, hv⟩
    | false => rw [q] at h; exact Dpf.look hr h
def tAtt (K : PySem.W.Frag) (n : Str) (te : TE) : TE := fun σ H Q => te σ H fun x H1 => ∃ (q C dx : Addr) (vs : List (Str × V)) (v : V), x = .ref q ∧ H1 q = some (exo q C (some dx)) ∧ H1 dx = some (exd dx vs) ∧ vs.lookup n = some v ∧ KitE K C ∧ PySem.W.findIn K (.ref C) n = some none ∧ Q v H1
theorem pe_att {n : Str} {te : TE} (he : PE X e te) (hb : attributeBase e n X.env (eval e X.env) = eval e X.env := by rfl) : PE X (.Attribute e n pos) (tAtt X.K n te) := by
  refine ⟨fun pins s σ H Q I h => ?_⟩
  refine attr_of hb (thn (he.run pins s σ H _ I h) fun u s1 ⟨x, H1, I1, rx, q, C, dx, vs, v, ex, ha, hd, hl, T, hno, hq⟩ => ?_)
  subst ex
  obtain rfl : u = Value.ref q := rx
  obtain ⟨oe, od, mA, J, _, hk, rel⟩ := exc_at I1 ha hd
  obtain ⟨u, hu, ru⟩ := RelO.some_of (v := v) (o := mA n) (by rw [← hl]; exact rel n)
  exact HandSPX.exc_get I1.kIn J T.ga T.gt T.sub (PySem.W.findObj_own T.hd hno rfl (by rw [hk, hu])) (handed_of ru) ⟨v, H1, I1.tok _, ru, hq⟩
theorem de_att {A : Str → Str → Bool} {n : Str} (hA : AttK X.K X.mg A) (he : DE X W e t) (hb : attributeBase e n X.env (eval e X.env) = eval e X.env := by rfl) : DE X W (.Attribute e n pos) (dAtt A n t) :=
  (pe_att he hb).imp fun σ H Q ⟨R, Fz, B, ρ, Qd, E, w, sl, q, k, x⟩ => ⟨R, Fz, B, ρ, _, E, w, sl, q, fun R v H1 B1 d e1 w1 h1 ⟨c, fs, d2, ed, ha, hl, q1⟩ => by
    subst ed
    cases h1 with
    | exc hm h1 h2 h3 =>
      obtain ⟨C, hm', T, hn⟩ := hA _ _ ha
      rw [show X.md.mg = X.mg from rfl, hm'] at hm
      cases hm
      obtain ⟨y, hy, hd⟩ := h3.look hl
      exact ⟨_, _, _, _, y, rfl, w1.ex _ _ h1, w1.ex _ _ h2, hy, T, hn, k R y H1 B1 d2 e1 w1 hd q1⟩, x⟩
/-- {} -/
theorem de_dct0 : DE X W (.Dict [] [] pos) (dC (.dct [])) := pe_dnewK.imp fun σ H Q ⟨R, Fz, B, ρ, Qd, E, w, sl, q, k, _⟩ => fun z hz =>
  k R _ _ _ _ (Ex.new (w.free hz)) (w.new hz) (.dct upd_same .nil) q
end
end DL

set_option Elab.async false
set_option linter.all false
set_option maxRecDepth 100000
set_option maxHeartbeats 1000000
namespace DL
open PySem L2
/-! ### lists of one's own -/
theorem lst_sys {vs : List V} (o : Obj) : HO.lst vs ≠ sysO o := fun z => by unfold sysO at z; cases z
section
variable {M : Md} {R : Res} {F0 B Fz H B' H' : Hp} {σ : L2.St} {ρ : Env}
theorem set_at {α : Type} {l : List α} {i j : Nat} {x y : α} (h : (l.set i x)[j]? = some y) : (i = j ∧ x = y ∧ i < l.length) ∨ (i ≠ j ∧ l[j]? = some y) := by
  by_cases q : i = j
  · subst q
    have hl : i < l.length := by
      have := (List.getElem?_eq_some_iff.mp h).1
      rw [List.length_set] at this; exact this
    rw [List.getElem?_set_self hl] at h
    exact .inl ⟨rfl, Option.some.inj h, hl⟩
  · rw [List.getElem?_set_ne q] at h
    exact .inr ⟨q, h⟩
theorem SR.setOwn {i : Nat} {p : Addr} {vs : List V} {ds : List D} (s : SR M R F0 B Fz H σ ρ) (hp : H p = none) (h : Dps M B vs ds) : SR M R F0 B (upd Fz p (.lst vs)) (upd H p (.lst vs)) (σ.set i (some (.ref p))) (ρ.set i (some (.own (.lst ds)))) := by
  have np : Fz p = none := s.wd.fz.free hp
  refine ⟨s.wd.own hp, ⟨by rw [List.length_set, List.length_set]; exact s.sl.len, fun j d e n => ?_⟩, s.f0.trans (Ex.new np), s.s0, fun j d e => ?_, fun j k d e a h1 h2 h3 h4 => ?_⟩
  · rcases set_at e with ⟨rfl, q, _⟩ | ⟨ne, q⟩
    · cases q; cases n
    · rw [List.getElem?_set_ne ne]; exact s.sl.get j d q n
  · rcases set_at e with ⟨rfl, q, hl⟩ | ⟨ne, q⟩
    · cases q
      exact ⟨p, .lst vs, List.getElem?_set_self (by rw [s.sl.len]; exact hl), s.f0.free np, upd_same, vs, rfl, h⟩
    · obtain ⟨a, o, q1, q2, q3, q4⟩ := s.own j d q
      exact ⟨a, o, by rw [List.getElem?_set_ne ne]; exact q1, q2, by rw [upd_ne (ne_of_none q3 np)]; exact q3, q4⟩
  · rcases set_at h1 with ⟨rfl, _, _⟩ | ⟨n1, q1⟩
    · rcases set_at h2 with ⟨rfl, _, _⟩ | ⟨n2, q2⟩
      · rfl
      · obtain ⟨b, o, z1, _, z3, _⟩ := s.own k e q2
        rw [List.getElem?_set_ne n2, z1] at h4
        cases h4
        rcases set_at h3 with ⟨_, z, _⟩ | ⟨n, _⟩
        · cases z; rw [np] at z3; cases z3
        · exact (n rfl).elim
    · obtain ⟨b, o, z1, _, z3, _⟩ := s.own j d q1
      rw [List.getElem?_set_ne n1, z1] at h3
      cases h3
      rcases set_at h2 with ⟨rfl, _, _⟩ | ⟨n2, q2⟩
      · rcases set_at h4 with ⟨_, z, _⟩ | ⟨n, _⟩
        · cases z; rw [np] at z3; cases z3
        · exact (n rfl).elim
      · rw [List.getElem?_set_ne n2] at h4
        exact s.inj j k d e _ q1 q2 z1 h4
theorem SR.turn {i : Nat} {l : Addr} {d0 : D} {us vs : List V} {ds : List D} (s : SR M R F0 B Fz H σ ρ) (hi : ρ[i]? = some (some (.own d0))) (hl : σ[i]? = some (some (.ref l))) (hf : Fz l = some (.lst us)) (h0 : F0 l = none) (h : Dps M B vs ds) :
    SR M R F0 B (upd Fz l (.lst vs)) (upd H l (.lst vs)) σ (ρ.set i (some (.own (.lst ds)))) := by
  refine ⟨s.wd.turn hf lst_sys, ⟨by rw [List.length_set]; exact s.sl.len, fun j d e n => ?_⟩, fun a o e => ?_, s.s0, fun j d e => ?_, fun j k d e a h1 h2 h3 h4 => ?_⟩
  · rcases set_at e with ⟨rfl, q, _⟩ | ⟨ne, q⟩
    · cases q; cases n
    · exact s.sl.get j d q n
  · rw [upd_ne (fun z => by rw [z, h0] at e; cases e)]; exact s.f0 a o e
  · rcases set_at e with ⟨rfl, q, _⟩ | ⟨ne, q⟩
    · cases q
      exact ⟨l, .lst vs, hl, h0, upd_same, vs, rfl, h⟩
    · obtain ⟨a, o, q1, q2, q3, q4⟩ := s.own j d q
      have na : a ≠ l := fun z => by subst z; exact ne (s.inj i j _ _ _ hi q hl q1)
      exact ⟨a, o, q1, q2, by rw [upd_ne na]; exact q3, q4⟩
  · have f : ∀ {j : Nat} {d : D}, (ρ.set i (some (.own (.lst ds))))[j]? = some (some (.own d)) → ∃ d', ρ[j]? = some (some (.own d')) := fun {j d} e => by
      rcases set_at e with ⟨rfl, _, _⟩ | ⟨_, q⟩
      · exact ⟨_, hi⟩
      · exact ⟨_, q⟩
    obtain ⟨d1, q1⟩ := f h1
    obtain ⟨d2, q2⟩ := f h2
    exact s.inj j k _ _ a q1 q2 h3 h4
theorem SR.give {i : Nat} {ds : List D} (s : SR M R F0 B Fz H σ ρ) (hi : ρ[i]? = some (some (.own (.lst ds)))) : ∃ B1 Fz1, Ex B B1 ∧ SR M R F0 B1 Fz1 H σ (ρ.set i (some (.lst ds))) := by
  obtain ⟨l, o, q1, q2, q3, vs, rfl, hv⟩ := s.own i _ hi
  have nb : B l = none := s.wd.dis _ _ q3
  have ex : Ex B (upd B l (.lst vs)) := Ex.new nb
  refine ⟨upd B l (.lst vs), cutH Fz l, ex, s.wd.give q3 lst_sys, ⟨by rw [List.length_set]; exact s.sl.len, fun j d e n => ?_⟩, fun a o e => ?_, s.s0, fun j d e => ?_, fun j k d e a h1 h2 h3 h4 => ?_⟩
  · rcases set_at e with ⟨rfl, q, _⟩ | ⟨ne, q⟩
    · cases q
      exact ⟨_, q1, .lst upd_same (hv.mono ex)⟩
    · obtain ⟨v, g1, g2⟩ := s.sl.get j d q n
      exact ⟨v, g1, g2.mono ex⟩
  · rw [cutH_ne (fun z => by rw [z, q2] at e; cases e)]; exact s.f0 a o e
  · rcases set_at e with ⟨rfl, q, _⟩ | ⟨ne, q⟩
    · cases q
    · obtain ⟨a, o, g1, g2, g3, g4⟩ := s.own j d q
      have na : a ≠ l := fun z => by subst z; exact ne (s.inj i j _ _ _ hi q q1 g1)
      exact ⟨a, o, g1, g2, by rw [cutH_ne na]; exact g3, g4.mono ex⟩
  · rcases set_at h1 with ⟨rfl, q, _⟩ | ⟨_, z1⟩
    · cases q
    · rcases set_at h2 with ⟨rfl, q, _⟩ | ⟨_, z2⟩
      · cases q
      · exact s.inj j k _ _ a z1 z2 h3 h4
end
/-- a new list, nobody else's -/
def liftF (M : Md) (W : WX) (t : DA) : TE := fun σ H Q => ∃ (R : Res) (Fz B : Hp) (ρ : Env) (Qd : Res → List D → Prop) (E : DX), Wd R B Fz H ∧ Slots M B σ ρ ∧ t R ρ Qd E ∧
  (∀ (R : Res) (v : List V) (p : Addr) (H' B' : Hp) (d : List D), Ex B B' → Wd R B' Fz H' → H' p = none → Dps M B' v d → Qd R d → Q (.ref p) (upd H' p (.lst v))) ∧ XL M W B Fz σ E
abbrev DF (X : Cx) (W : WX) (e : Expr) (t : DA) : Prop := PE X e (liftF X.md W t)
section
variable {X : Cx} {W : WX} {a b c e : Expr} {es : List Expr} {ta tb t : DT} {tr : DA} {pos p apos : Pos} {sts : List Stmt} {tu : DSt}
def fCat (ta tb : DT) : DA := fun R ρ Q E => ta R ρ (fun R x => tb R ρ (fun R y => ∃ xs ys, x = .lst xs ∧ y = .lst ys ∧ xs.length + ys.length ≤ sizeLine ∧ Q R (xs ++ ys)) E) E
theorem df_cat (ha : DE X W a ta) (hb : DE X W b tb) : DF X W (.BinOp a .Add b pos) (fCat ta tb) :=
  (pe_op op_cat ha hb).imp fun σ H Q ⟨R, Fz, B, ρ, Qd, E, w, sl, q, k, x⟩ => ⟨R, Fz, B, ρ, _, E, w, sl, q, fun R1 v H1 B1 d e1 w1 h1 q1 =>
    ⟨R1, Fz, B1, ρ, _, E, w1, sl.mono e1, q1, fun R2 u H2 B2 d2 e2 w2 h2 ⟨xs, ys, e3, e4, hz, q2⟩ => by
      subst e3 e4
      have h1' := h1.mono e2
      cases h1' with
      | lst s1 g1 =>
        cases h2 with
        | lst s2 g2 =>
          exact ⟨_, _, _, _, rfl, rfl, w2.ex _ _ s1, w2.ex _ _ s2, by rw [g1.length, g2.length]; exact hz, fun p hp => k R2 _ p H2 B2 _ (e1.trans e2) w2 hp (g1.append g2) q2⟩, x.mono e1⟩, x⟩
def fLst (ta : DA) : DA := fun R ρ Q E => ta R ρ (fun R xs => xs.length ≤ sizeLine ∧ Q R xs) E
theorem df_lst (h : DAs X W es tr) : DF X W (.List es pos) (fLst tr) :=
  (pe_lst h).imp fun σ H Q ⟨R, Fz, B, ρ, Qd, E, w, sl, q, k, x⟩ => ⟨R, Fz, B, ρ, _, E, w, sl, q, fun R vs H1 B1 ds e1 w1 h1 ⟨hz, q1⟩ =>
    ⟨by rw [h1.length]; exact hz, fun p hp => k R _ p H1 B1 _ e1 w1 hp h1 q1⟩, x⟩
/-- name = a new list -/
def dOwn (i : Nat) (t : DA) : DSt := fun R De ρ => t R ρ (fun R ds => De.nx R (ρ.set i (some (.own (.lst ds))))) (fun R c fs => De.ex R c fs ρ)
theorem ds_own {i : Nat} {x : Str} {pos' : Pos} (hN : X.N.Nodup) (hi : X.N[i]? = some x) (hx : Loc X.env.scope x) (he : DF X W e tr) (hs : swapsWith e (some (.Name x pos')) pos.line X.env = pure false := by rfl)
    (hf : X.fn x = true ∨ X.env.scope.names.lookup x = some .local := by first | exact .inl rfl | exact .inr rfl | assumption) : DS X W (.Assign [.Name x pos'] e pos) (dOwn i tr) := (ps_set hN hi hx he hs hf).imp fun En σ H ⟨R, F0, B, Fz, ρ, De, s, q, x⟩ =>
  ⟨R, Fz, B, ρ, _, _, s.wd, s.sl, q, fun R v p H' B' d e w hp h q1 => x.nx R _ _ B' _ _ e ((s.grow e w).setOwn hp h) q1, x.xl s⟩
/-- name.append(e) -/
def dApp (i : Nat) (t : DT) : DSt := fun R De ρ => ∃ ds, ρ[i]? = some (some (.own (.lst ds))) ∧ t R ρ (fun R d => ds.length < sizeLine ∧ De.nx R (ρ.set i (some (.own (.lst (ds ++ [d])))))) (fun R c fs => De.ex R c fs ρ)
theorem ds_app {i : Nat} {x : Str} {px : Pos} (hN : X.N[i]? = some x) (he : DE X W e t) (hv : Vis X.env.scope x := by first | exact Or.inl rfl | exact Or.inr (Or.inl rfl) | exact Or.inr (Or.inr rfl)) (hd : (x == ("__debug__" : Str)) = false := by decide)
    (hcd : (x == ("__classdict__" : Str)) = false := by decide) (hline : (apos.endLine == p.line) = true := by rfl) (h1 : starEach [e] X.env = (false, eval e X.env) :: starEach [] X.env := by rfl)
    (hs : swapsWith (.Call (.Attribute (.Name x px) "append" apos) [e] [] p) none pos.line X.env = pure false := by rfl) : DS X W (.Expr (.Call (.Attribute (.Name x px) "append" apos) [e] [] p) pos) (dApp i t) := by
  refine (ps_expr (pe_bm PySem.F.plainAttrs_list PySem.F.slot_list_append PySem.F.type_list_append mt_append (pe_var hN hv hd hcd) (pa_cons he pa_nil h1) (hline := hline) (hs := h1) (hfew := by rw [h1]; rfl)) hs).imp fun En σ H ⟨R, F0, B, Fz, ρ, De, s, ⟨ds, hi, q⟩, x⟩ => ?_
  obtain ⟨l, o, q1, q2, q3, vs, rfl, hv⟩ := s.own i _ hi
  refine ⟨_, q1, .inl ⟨rfl, vs, SqL.of (s.wd.fz _ _ q3)⟩, ?_⟩
  refine ⟨R, Fz, B, ρ, _, _, s.wd, s.sl, q, fun R v H' B' d e w h ⟨hz, q4⟩ => ?_, x.xl s⟩
  have s' := s.grow e w
  refine ⟨l, vs, v, rfl, rfl, w.fz _ _ q3, by rw [hv.length]; exact hz, ?_⟩
  exact x.nx R _ _ B' _ _ e (s'.turn hi q1 q3 q2 ((hv.mono e).append (.cons h .nil))) q4
/-- a list is given away: it changes no more -/
def dGive (i : Nat) (u : DSt) : DSt := fun R De ρ => ∃ ds, ρ[i]? = some (some (.own (.lst ds))) ∧ u R De (ρ.set i (some (.lst ds)))
theorem dss_give (i : Nat) (h : DSs X W sts tu) : DSs X W sts (dGive i tu) := h.imp fun En σ H ⟨R, F0, B, Fz, ρ, De, s, ⟨ds, hi, q⟩, x⟩ =>
  let ⟨B1, Fz1, ex, s1⟩ := s.give hi
  ⟨R, F0, B1, Fz1, _, De, s1, q, x.mono ex⟩
end
end DL

set_option Elab.async false
set_option linter.all false
set_option maxRecDepth 100000
set_option maxHeartbeats 1000000
namespace DL
open PySem L2 PySem.Spec PyProof.Rows
/-! ### a law's end -/
def H0 (a : Addr) (u : Option HO) (o : Obj) : Hp := fun b => if b = sysModules then some (sysO o) else if b = a then u else none
theorem H0_sys {a : Addr} {u : Option HO} {o : Obj} : H0 a u o sysModules = some (sysO o) := if_pos rfl
theorem H0_a {a : Addr} {u : Option HO} {o : Obj} (h : a ≠ sysModules) : H0 a u o a = u := by unfold H0; rw [if_neg h, if_pos rfl]
theorem H0_none {a b : Addr} {u : Option HO} {o : Obj} (h1 : b ≠ sysModules) (h2 : b ≠ a) : H0 a u o b = none := by unfold H0; rw [if_neg h1, if_neg h2]
theorem law_g {P : Program} {w : World} {K : PySem.W.Frag} {mg mb : Str → Option Value} {k : Nat} {fa a : Addr} {fd : FuncData} {x : Str} {sp : DSp} {s₁ : Shared} {vs : List Value} {ns : List Int} {oS : Obj} {es : Array DictEntry} {ep : Nat}
    (KX : K.In s₁.heap) (hns : s₁.heap.Ns mainGlobals mg) (hb : s₁.heap.Ns builtinsNs mb) (hbb : ∀ x : Str, x ≠ "__name__" → mb x = bootBuiltins x) (hlim : s₁.heap.NoLimit) (hg : s₁.gens = #[])
    (hks : K.lookup sysModules = none) (hsy : s₁.heap.get? sysModules = some oS) (hsd : oS.data = .dict es ep)
    (ha : s₁.heap.get? a = some { cls := .type "list", data := .seq vs.toArray }) (hi : IntsAre vs ns) (hl : ns.length ≤ sizeLine) (hr : Room k callerA)
    (F : ∀ base : Heap, K.In base → base.Ns mainGlobals mg → FnG P w K mg base (L2.CX P w) k fa fd [x] (spL ⟨K, mg, w⟩ sp)) (hbind : ∀ (s : Shared) (u : Value), BindsTo s fd ⟨[u], []⟩ [(x, u)])
    (hsp : sp (emp.star emp) [.frl (ns.map D.int)] (fun _ d => d = .bl true) noX) :
    codeAny (model P w) callerA (.call (.ref fa) ⟨[.ref a], []⟩) (fun r s' => r = .ok (.ret (.bool true)) ∧ OldK s₁.heap s'.heap ∧ s'.os = s₁.os ∧ AllBare s'.gens) s₁ := by
  have rv := vals_ints hi
  have lenV := hi.length
  have nas : a ≠ sysModules := fun z => by
    rw [z, hsy] at ha
    cases ha
    cases hsd
  have core : ∀ u : Option HO, (u = none ∨ ∃ o xs, u = some (.frz o (.lst xs))) → SqL K (fun b => if b = a then u else none) a (ns.map V.int) → HOk P w (H0 a u oS) s₁.heap → (u ≠ none → K.lookup a = none) →
      codeAny (model P w) callerA (.call (.ref fa) ⟨[.ref a], []⟩) (fun r s' => r = .ok (.ret (.bool true)) ∧ OldK s₁.heap s'.heap ∧ s'.os = s₁.os ∧ AllBare s'.gens) s₁ := by
    intro u hu hS hok hK
    have base_of : ∀ {b : Addr} {o : Obj}, s₁.heap.get? b = some o → H0 a u oS b = none → (hidT s₁.heap (H0 a u oS)).get? b = some o := fun e n => hidT_get e n
    have nsK : ∀ {b : Addr} {m : Str → Option Value}, b ≠ sysModules → s₁.heap.Ns b m → (hidT s₁.heap (H0 a u oS)).Ns b m := fun {b m} hb' ⟨o, es, ep, e, d, r⟩ => by
      refine ⟨o, es, ep, base_of e (H0_none hb' fun z => ?_), d, r⟩
      rw [z, ha] at e
      cases e
      cases d
    have hKb : K.In (hidT s₁.heap (H0 a u oS)) := fun b o e => base_of (KX b o e) (by
      have n1 : b ≠ sysModules := fun z => by rw [z, hks] at e; cases e
      by_cases hb : b = a
      · subst hb
        rw [H0_a n1]
        cases u with
        | none => rfl
        | some v => rw [hK (by simp)] at e; cases e
      · exact H0_none n1 hb)
    have hM : Mod K mg (hidT s₁.heap (H0 a u oS)) := ⟨hKb, nsK (by decide) hns, ⟨mb, nsK (by decide) hb, hbb⟩, let ⟨mc, h1, h2⟩ := hlim; ⟨mc, nsK (by decide) h1, h2⟩⟩
    have e0 : Env0 P w K mg (hidT s₁.heap (H0 a u oS)) callerA [] s₁ (H0 a u oS) := ⟨rfl, hM, fun b o e => of_hidT e, Nat.le_of_eq (hidT_size _ _), trivial, fun b hb => absurd (show b ∈ ([] : List Addr) from hb) (by simp), hok, .of_eq hg⟩
    have hw : Wd (emp.star emp) (fun b => if b = a then u else none) (fun b => if b = sysModules then some (sysO oS) else none) (H0 a u oS) := {
      sys := ⟨oS, if_pos rfl⟩
      ex := fun b o e => by
        by_cases q : b = a
        · subst q; rw [H0_a nas]; exact (if_pos rfl).symm.trans e
        · cases (if_neg q).symm.trans e
      fz := fun b o e => by
        by_cases q : b = sysModules
        · subst q; rw [H0_sys]; exact (if_pos rfl).symm.trans e
        · cases (if_neg q).symm.trans e
      dis := fun b o e => by
        by_cases q : b = sysModules
        · subst q; exact if_neg (Ne.symm nas)
        · cases (if_neg q).symm.trans e
      res := ⟨fun _ => none, (fun _ _ e => (nomatch e)), (fun _ _ e => (nomatch e)), fun _ => none, fun _ => none, (fun _ _ e => e), (fun _ _ e => e), (fun _ => .inl rfl), trivial, trivial⟩ }
    have hs : spL ⟨K, mg, w⟩ sp [.ref a] (H0 a u oS) (fun v H' => v = .bl true ∧ H' sysModules = some (sysO oS)) (fun _ _ _ => False) :=
      ⟨emp.star emp, _, _, _, _, noX, hw, .cons (.frl hS (Dps.ints ns)) .nil, hsp, fun R v H' B' d e w' h q => by subst q; exact ⟨h.ofBl, w'.fz _ _ (if_pos rfl)⟩, fun _ _ _ _ _ _ _ _ _ _ _ _ _ z => z⟩
    refine codeAny_mono ((F _ hKb (nsK (by decide) hns)).go callerA [] s₁ _ ⟨[.ref a], []⟩ [.ref a] [.ref a] _ _ hr rfl e0 (hbind s₁ (.ref a)) (.cons rfl .nil) hs) fun r s' h => ?_
    cases r with
    | error e =>
      obtain ⟨_, _, _, _, _, _, _, _, _, _, _, _, z⟩ := h
      exact z.elim
    | ok fl =>
      cases fl with
      | next => exact False.elim h
      | brk => exact False.elim h
      | cont => exact False.elim h
      | ret uv =>
        obtain ⟨v, H', os, bare, un, hok', r', q, qs⟩ := h
        subst q
        obtain rfl : uv = Value.bool true := r'
        refine ⟨rfl, OldK.of_keep fun b o e => ?_, os, bare⟩
        by_cases h1 : b = sysModules
        · subst h1
          have z : ObjOk P w H' s'.heap sysModules (.ext fun h => h.get? sysModules = some oS) := hok' _ _ qs
          rw [hsy] at e
          cases e
          exact z.1
        · by_cases h2 : b = a
          · subst h2
            rcases hu with rfl | ⟨ob, xs, rfl⟩
            · exact un.keep b o e (H0_a h1) (by intro z; exact absurd (show b ∈ ([] : List Addr) from z) (by simp)) (by simp)
            · have z := H0_a (u := some (.frz ob (.lst xs))) (o := oS) h1
              obtain ⟨e1, _⟩ := hok b _ z
              obtain ⟨e2, _⟩ := hok' b _ (un.frzs b ob _ z)
              rw [e] at e1
              cases e1
              exact e2
          · exact un.keep b o e (H0_none h1 h2) (by intro z; exact absurd (show b ∈ ([] : List Addr) from z) (by simp)) (by simp)
  have sysok : ∀ (H : Hp), ObjOk P w H s₁.heap sysModules (sysO oS) := fun H => ⟨hsy, ⟨_, hsy⟩, fun h1 h2 z k => k _ z⟩
  cases hk : K.lookup a with
  | some o =>
    have e := KX a o hk
    rw [ha] at e
    cases e
    refine core none (.inl rfl) (.inr ⟨_, vs.toArray, _, hk, rfl, rfl, rfl, by rw [List.size_toArray, lenV]; exact hl, by simpa using rv⟩) (fun b v z => ?_) fun z => absurd rfl z
    by_cases q : b = sysModules
    · subst q; rw [H0_sys] at z; cases z; exact sysok _
    · by_cases q2 : b = a
      · subst q2; rw [H0_a q] at z; cases z
      · rw [H0_none q q2] at z; cases z
  | none =>
    refine core (some (.frz { cls := .type "list", data := .seq vs.toArray } (.lst (ns.map V.int)))) (.inr ⟨_, _, rfl⟩) (.inl (.inr ⟨{ cls := .type "list", data := .seq vs.toArray }, if_pos rfl⟩)) (fun b v z => ?_) fun _ => hk
    by_cases q : b = sysModules
    · subst q; rw [H0_sys] at z; cases z; exact sysok _
    · by_cases q2 : b = a
      · subst q2; rw [H0_a q] at z; cases z
        exact ⟨ha, by rw [List.length_map]; exact hl, vs, _, rv, ha⟩
      · rw [H0_none q q2] at z; cases z
end DL

set_option Elab.async false
set_option linter.all false
set_option maxRecDepth 100000
set_option maxHeartbeats 1000000
namespace DL
open PySem L2 PySem.Spec PyProof.Rows
/-! ### what the head tells -/
abbrev Fg := PySem.W.Frag
def asX (g : Addr → Option Obj) : Nat → List Addr
  | 0 => [mainGlobals, cStatics]
  | n + 1 => He.growD g (asX g n)
def Kx (g : Addr → Option Obj) (n : Nat) : Fg := He.frG g ((asX g n).filter (· != sysModules))
theorem frG_out {g : Addr → Option Obj} {a : Addr} : ∀ {as : List Addr}, a ∉ as → (He.frG g as).lookup a = none
  | [], _ => rfl
  | b :: r, h => by
    unfold He.frG
    rw [List.filterMap_cons]
    have h2 : a ∉ r := fun z => h (List.mem_cons_of_mem _ z)
    have ih := frG_out (g := g) h2
    unfold He.frG at ih
    cases q : g b with
    | none => exact ih
    | some o =>
      show List.lookup a ((b, o) :: _) = none
      rw [List.lookup_cons]
      have n : (a == b) = false := by
        apply Bool.eq_false_iff.mpr
        intro z
        exact h (by rw [beq_iff_eq.mp z]; exact List.mem_cons_self ..)
      rw [n]
      exact ih
def isDict : Option Obj → Bool
  | some ⟨_, _, .dict _ _, _⟩ => true
  | _ => false
/-- an own exception class: its name, its field, its __init__'s qualified name and text, whether it stands over OverflowError -/
structure XnD where
  cls : Str
  fld : Str
  qual : Str
  st : Stmt
  ovf : Bool
abbrev XV := Option (Str × Str × Arguments × FuncBody × Scope × Addr × List Str × Value × Addr)
def XnD.C (K : Fg) (d : XnD) : Addr := He.ga K d.cls
def XnD.f (K : Fg) (d : XnD) : Addr := He.ma K (d.C K) "__init__"
def xnObs (K : Fg) (d : XnD) : XV := match K.lookup (d.f K) with
  | some ⟨_, _, .func fd, _⟩ => some (fd.name, fd.qualname, fd.params, fd.body, fd.scope, fd.globals, fd.closure.map (·.1), fd.defaults, fd.builtins)
  | _ => none
def XnD.val (d : XnD) : XV := some ("__init__", d.qual, defArgs d.st, .stmts (defBody d.st), defScope d.st, mainGlobals, ["__class__"], .none, builtinsNs)
abbrev ovTail : List Value := [.type "OverflowError", .type "ArithmeticError", .type "Exception", .type "BaseException", .type "object"]
def baseB (K : Fg) (C : Addr) (B newId initId : String) (bm : List Value) : Bool := PySem.W.excInitIn K C bm newId && (PySem.W.excOver K C bm && (decide (PySem.W.ks_superIn K C C "__init__" = some (some (.builtin initId))) && decide (PySem.W.subIn K (.ref C) (.type B) = some true)))
def kitB2 (K : Fg) (C : Addr) : Bool := (PySem.W.clsIn K C).isSome && (decide (PySem.W.findIn K (.ref C) "__getattribute__" = some (some (.builtin "BaseException.__getattribute__"))) && (decide (PySem.W.findIn K (.ref C) "__getattr__" = some none) && (decide (PySem.W.subIn K (.ref C) (.type "BaseException") = some true) &&
  (decide (PySem.W.findIn K (.ref C) "__class__" = some (some (.builtin "object.__class__"))) && (decide (PySem.W.specialIn K (.builtin "object.__class__") "__get__" = some (some (.builtin "getset_descriptor.__get__"))) && (decide (PySem.W.takesIn K (.builtin "object.__class__") = some true) &&
  (decide (PySem.W.mroIn K C (.type "object") = some true) && PySem.W.hasDictIn K C)))))))
def codeB (mf : Str) (K : Fg) (C : Addr) : Option Obj → Bool
  | some ⟨_, _, .func fd, _⟩ => (match fd.code, fd.closure with
    | .ref c, [(_, cc)] => PySem.W.codeIn K (.ref c) fd.qualname && ((match K.lookup c with
        | some ⟨_, _, .fields vs, _⟩ => (match vs.toList with
          | _ :: _ :: .str file _ :: _ => mf == file
          | _ => false)
        | _ => false) && (match K.lookup cc with
        | some ⟨_, _, .cell (some (.ref C')), _⟩ => C' == C
        | _ => false))
    | _, _ => false)
  | _ => false
def XnD.ok (mf : Str) (K : Fg) (d : XnD) : Bool := (if d.ovf then baseB K (d.C K) "OverflowError" "OverflowError.__new__" "OverflowError.__init__" ovTail else baseB K (d.C K) "ValueError" "ValueError.__new__" "ValueError.__init__" He.veBase) &&
  (decide (PySem.W.findIn K (.ref (d.C K)) "__setattr__" = some (some (.builtin "object.__setattr__"))) && (decide (PySem.W.mroIn K (d.C K) (.ref (d.C K)) = some true) && (decide (PySem.W.findIn K (.ref (d.C K)) d.fld = some none) && (decide (PySem.W.nsIn K cStatics "thirdparty.any" = some none) &&
  (PySem.W.keepIn K (.ref (d.C K)) && (decide (PySem.W.findIn K (.ref (d.C K)) "__init__" = some (some (.ref (d.f K)))) && (decide (PySem.W.typeIn K (.ref (d.f K)) = some (.type "function")) && (kitB2 K (d.C K) && (codeB mf K (d.C K) (K.lookup (d.f K)) && decide (PySem.W.nsIn K mainGlobals d.cls = some (some (.ref (d.C K)))))))))))))
abbrev AlX := Bool × List He.FnV × List XV
def obsX (mf : Str) (fa : List (Fg → Bool)) (fn : List He.FnD) (xn : List XnD) (K : Fg) : AlX := ((fa.all fun f => f K) && ((fn.all fun d => (He.Fa.code d.at_ d.qual).ok K) && xn.all fun d => d.ok mf K), fn.map (fun d => He.fnObs K d.at_), xn.map (xnObs K))
def valX (fn : List He.FnD) (xn : List XnD) : AlX := (true, fn.map He.FnD.val, xn.map XnD.val)
structure SaysX (mf : Str) (fa : List (Fg → Bool)) (fn : List He.FnD) (xn : List XnD) (K : Fg) (h : Heap) : Prop where
  kin : K.In h
  eq : obsX mf fa fn xn K = valX fn xn
  nos : K.lookup sysModules = none
  sys : isDict (h.get? sysModules) = true
def obsXG (n : Nat) (mf : Str) (fa : List (Fg → Bool)) (fn : List He.FnD) (xn : List XnD) (g : Addr → Option Obj) : Bool × AlX := (isDict (g sysModules), obsX mf fa fn xn (Kx g n))
theorem isDict_keeps {h h' : Heap} (e : isDict (h.get? sysModules) = true) (k : ∀ b o, h.get? b = some o → h'.get? b = some o) : isDict (h'.get? sysModules) = true := by
  cases q : h.get? sysModules with
  | none => rw [q] at e; cases e
  | some o => rw [k _ _ q]; rw [q] at e; exact e
def hookX (n : Nat) (mf : Str) (fa : List (Fg → Bool)) (fn : List He.FnD) (xn : List XnD) : PySem.W.Hook where
  α := Bool × AlX
  obs := fun s => obsXG n mf fa fn xn s.heap.get?
  val := fun _ => (true, valX fn xn)
  says := fun _ h => ∃ K : Fg, SaysX mf fa fn xn K h
  of := fun _ _ e => ⟨_, He.frG_in, (Prod.mk.inj e).2, frG_out (fun z => by have := (List.mem_filter.mp z).2; simp at this), (Prod.mk.inj e).1⟩
  keeps := fun _ _ _ ⟨K, c⟩ k => ⟨K, PySem.W.Frag.In.keeps c.kin k, c.eq, c.nos, isDict_keeps c.sys k⟩
theorem obsXG_eq {n : Nat} {mf : Str} {fa : List (Fg → Bool)} {fn : List He.FnD} {xn : List XnD} {g : Addr → Option Obj} {s : Shared} (h : ∀ a, g a = s.heap.get? a) : obsXG n mf fa fn xn g = (hookX n mf fa fn xn).obs s := by
  have e : g = s.heap.get? := funext h
  rw [e] <;> rfl
section
variable {mf : Str} {fa : List (Fg → Bool)} {fn : List He.FnD} {xn : List XnD} {K : Fg} {h : Heap}
theorem SaysX.all (c : SaysX mf fa fn xn K h) : (fa.all fun f => f K) = true ∧ (fn.all fun d => (He.Fa.code d.at_ d.qual).ok K) = true ∧ (xn.all fun d => d.ok mf K) = true := by
  have e : ((fa.all fun f => f K) && ((fn.all fun d => (He.Fa.code d.at_ d.qual).ok K) && xn.all fun d => d.ok mf K)) = true := congrArg (fun z : AlX => z.1) c.eq
  obtain ⟨e1, e⟩ := He.ba e
  exact ⟨e1, He.ba e⟩
theorem SaysX.fact (c : SaysX mf fa fn xn K h) (i : Nat) {f : Fg → Bool} (hi : fa[i]? = some f := by rfl) : f K = true := List.all_eq_true.mp c.all.1 f (List.mem_of_getElem? hi)
theorem SaysX.def_ (c : SaysX mf fa fn xn K h) (i : Nat) {d : He.FnD} (hi : fn[i]? = some d := by rfl) :
    ∃ oc od osl kV doc pm an cdv ct, K.lookup (He.fAd K d.at_) = some ⟨oc, od, .func (PySem.W.fnOf d.name d.qual d.params d.body d.scope .none kV doc pm an cdv ct), osl⟩ ∧ PySem.W.codeIn K cdv d.qual = true := by
  have e : fn.map (fun d => He.fnObs K d.at_) = fn.map He.FnD.val := congrArg (fun z : AlX => z.2.1) c.eq
  have e2 : (fn.map fun d => He.fnObs K d.at_)[i]? = (fn.map He.FnD.val)[i]? := by rw [e]
  rw [List.getElem?_map, List.getElem?_map, hi] at e2
  exact He.fn_ok (Option.some.inj e2) (List.all_eq_true.mp c.all.2.1 d (List.mem_of_getElem? hi))
theorem SaysX.defAt (c : SaysX mf fa fn xn K h) {mg : Str → Option Value} (G : h.Ns mainGlobals mg) {x : Str} {st : Stmt} (i j : Nat) (hi : fn[i]? = some ⟨(x, none), x, x, defArgs st, defBody st, defScope st⟩) (hj : fa[j]? = some fun K => (He.Fa.glo x).ok K && (He.Fa.keep x).ok K) : DefAt K mg x st := by
  obtain ⟨oc, od, osl, kV, doc, pm, an, cdv, ct, e1, e2⟩ := c.def_ i hi
  obtain ⟨k1, k2⟩ := He.ba (c.fact j hj)
  exact ⟨_, _, He.glo_ok c.kin G k1, ⟨oc, od, kV, doc, pm, an, cdv, ct, osl, rfl, e1, e2⟩, He.keep_ok k2⟩
theorem SaysX.free (c : SaysX mf fa fn xn K h) {mg : Str → Option Value} (G : h.Ns mainGlobals mg) {x : Str} (j : Nat) (hj : fa[j]? = some fun K => (He.Fa.free x).ok K) : mg x = none := He.free_ok c.kin G (c.fact j hj)
theorem baseB_ok {C : Addr} {B newId initId : String} {bm : List Value} (e : baseB K C B newId initId bm = true) : PySem.W.excInitIn K C bm newId = true ∧ PySem.W.excOver K C bm = true ∧ PySem.W.ks_superIn K C C "__init__" = some (some (.builtin initId)) ∧ PySem.W.subIn K (.ref C) (.type B) = some true := by
  obtain ⟨e1, e⟩ := He.ba e
  obtain ⟨e2, e⟩ := He.ba e
  obtain ⟨e3, e4⟩ := He.ba e
  exact ⟨e1, e2, of_decide_eq_true e3, of_decide_eq_true e4⟩
theorem kitB2_ok {C : Addr} (e : kitB2 K C = true) : KitE K C := by
  obtain ⟨e1, e⟩ := He.ba e
  obtain ⟨e2, e⟩ := He.ba e
  obtain ⟨e3, e⟩ := He.ba e
  obtain ⟨e4, e⟩ := He.ba e
  obtain ⟨e5, e⟩ := He.ba e
  obtain ⟨e6, e⟩ := He.ba e
  obtain ⟨e7, e⟩ := He.ba e
  obtain ⟨e8, e9⟩ := He.ba e
  exact ⟨e1, of_decide_eq_true e2, of_decide_eq_true e3, of_decide_eq_true e4, of_decide_eq_true e5, of_decide_eq_true e6, of_decide_eq_true e7, of_decide_eq_true e8, e9⟩
theorem codeB_ok {P : Program} (hf : P.main.file = mf) {C f : Addr} {d : XnD} (ev : xnObs K d = d.val) (hfd : d.f K = f) (e : codeB mf K C (K.lookup f) = true) :
    ∃ (oc : Value) (od : Option Addr) (osl : Array (Option Value)) (qn : Str) (kV doc pm : Value) (an : Option Addr) (cda : Addr) (ct : Value) (cc : Addr), K.lookup f = some ⟨oc, od, .func (PySem.W.ksFn "__init__" qn (defArgs d.st) (defBody d.st) (defScope d.st) .none kV doc pm an (.ref cda) ct cc), osl⟩ ∧
    PySem.W.codeIn K (.ref cda) qn = true ∧ (∃ (ccl : Value) (cdd : Option Addr) (vs : Array Value) (ccs : Array (Option Value)) (file : Str) (tf : Tok), K.lookup cda = some ⟨ccl, cdd, .fields vs, ccs⟩ ∧ vs[2]? = some (.str file tf) ∧ ((P.main.file : Str) == file) = true) ∧
    ∃ (cl : Value) (cld : Option Addr) (csl : Array (Option Value)), K.lookup cc = some ⟨cl, cld, .cell (some (.ref C)), csl⟩ := by
  unfold xnObs at ev
  rw [hfd] at ev
  cases q : K.lookup f with
  | none => rw [q] at e; cases e
  | some o =>
    rw [q] at e ev
    obtain ⟨oc, od, dt, osl⟩ := o
    cases dt with
    | func fd =>
      obtain ⟨n1, n2, n3, n4, n5, n6, n7, n8, n9, n10, n11, n12, n13, n14, n15⟩ := fd
      have ev2 : (some (n1, n2, n3, n4, n5, n6, n7.map (·.1), n8, n15) : XV) = some ((("__init__" : Str), d.qual, defArgs d.st, FuncBody.stmts (defBody d.st), defScope d.st, mainGlobals, [("__class__" : Str)], Value.none, builtinsNs)) := ev
      simp only [Option.some.injEq, Prod.mk.injEq] at ev2
      obtain ⟨h1, h2, h3, h4, h5, h6, h7, h8, h9⟩ := ev2
      subst h1 h2 h3 h4 h5 h6 h8 h9
      unfold codeB at e
      dsimp only at e
      cases n13 with
      | ref cda =>
        cases n7 with
        | nil => cases e
        | cons p r =>
          cases r with
          | cons _ _ => cases e
          | nil =>
            obtain ⟨p1, cc⟩ := p
            have h7' : p1 = ("__class__" : Str) := (List.cons.inj h7).1
            subst h7'
            dsimp only at e
            obtain ⟨e1, e⟩ := He.ba e
            obtain ⟨e2, e3⟩ := He.ba e
            refine ⟨oc, od, osl, _, n9, n10, n11, n12, cda, n14, cc, rfl, e1, ?_, ?_⟩
            · cases q2 : K.lookup cda with
              | none => rw [q2] at e2; cases e2
              | some o2 =>
                rw [q2] at e2
                obtain ⟨c1, c2, c3, c4⟩ := o2
                cases c3 with
                | fields vs =>
                  dsimp only at e2
                  split at e2
                  · rename_i v0 v1 file tf rest hvs
                    refine ⟨c1, c2, vs, c4, file, tf, rfl, ?_, by rw [hf]; exact e2⟩
                    rw [← Array.getElem?_toList, hvs]; rfl
                  · cases e2
                | _ => cases e2
            · cases q3 : K.lookup cc with
              | none => rw [q3] at e3; cases e3
              | some o3 =>
                rw [q3] at e3
                split at e3
                · rename_i z
                  cases z
                  exact ⟨_, _, _, by rw [beq_iff_eq.mp e3]⟩
                · cases e3
      | _ => cases e
    | _ => cases e
theorem SaysX.exc (c : SaysX mf fa fn xn K h) {P : Program} {mg : Str → Option Value} (G : h.Ns mainGlobals mg) (hf : P.main.file = mf) (hs : (P.main.scope.names.lookup ("super" : Str)).isSome = false) {d : XnD} (i : Nat) (hi : xn[i]? = some d) :
    ∃ C, mg d.cls = some (.ref C) ∧ XcK P K d.st d.fld C (d.f K) ∧ KitE K C ∧ C = He.ga K d.cls := by
  have e := List.all_eq_true.mp c.all.2.2 d (List.mem_of_getElem? hi)
  obtain ⟨b, e⟩ := He.ba e
  obtain ⟨e1, e⟩ := He.ba e
  obtain ⟨e2, e⟩ := He.ba e
  obtain ⟨e3, e⟩ := He.ba e
  obtain ⟨e4, e⟩ := He.ba e
  obtain ⟨e5, e⟩ := He.ba e
  obtain ⟨e6, e⟩ := He.ba e
  obtain ⟨e7, e⟩ := He.ba e
  obtain ⟨e8, e⟩ := He.ba e
  obtain ⟨e9, e10⟩ := He.ba e
  have ev : xn.map (xnObs K) = xn.map XnD.val := congrArg (fun z : AlX => z.2.2) c.eq
  have ev2 : (xn.map (xnObs K))[i]? = (xn.map XnD.val)[i]? := by rw [ev]
  rw [List.getElem?_map, List.getElem?_map, hi] at ev2
  have kt := kitB2_ok e8
  refine ⟨d.C K, PySem.W.mg_of c.kin G (of_decide_eq_true e10), ?_, kt, rfl⟩
  refine ⟨?_, kt.hd, of_decide_eq_true e1, of_decide_eq_true e2, of_decide_eq_true e3, of_decide_eq_true e4, e5, of_decide_eq_true e6, of_decide_eq_true e7, codeB_ok hf (Option.some.inj ev2) rfl e9, hs⟩
  by_cases q : d.ovf = true
  · rw [if_pos q] at b
    obtain ⟨b1, b2, b3, b4⟩ := baseB_ok b
    exact ⟨_, _, _, _, PySem.F.excBase_OverflowError, PySem.W.kxs_OverflowError, PySem.F.store_OverflowError, b1, b2, b3, b4⟩
  · rw [if_neg q] at b
    obtain ⟨b1, b2, b3, b4⟩ := baseB_ok b
    exact ⟨_, _, _, _, PySem.F.excBase_ValueError, PySem.W.kxs_ValueError, PySem.F.store_ValueError, b1, b2, b3, b4⟩
end
/-- the walk that a head asks for -/
theorem walk_g {l : PySem.W.OpenLaw} {n k : Nat} {q : Program} {loose : List Str} {XP : (Str → Option Value) → Heap → Prop} {YP : World → Heap → Prop} {d : DefRec} {x : Str} (hn : l.most = some n) (hn2 : n ≤ sizeLine) (hdf : d.params.defaults = []) (hr : Room k callerA)
    (F : ∀ (w : World) (mg : Str → Option Value) (fa : Addr) (h : Heap), YP w h → h.Ns mainGlobals mg → mg d.name = some (.ref fa) → ∃ (K : Fg) (fd : FuncData) (sp : DSp), K.In h ∧ K.lookup sysModules = none ∧ isDict (h.get? sysModules) = true ∧ (∀ (s : Shared) (u : Value), BindsTo s fd ⟨[u], []⟩ [(x, u)]) ∧
      (∀ ns : List Int, ns.length ≤ n → sp (emp.star emp) [.frl (ns.map D.int)] (fun _ d => d = .bl true) noX) ∧ ∀ base : Heap, K.In base → base.Ns mainGlobals mg → FnG l.prog w K mg base (L2.CX l.prog w) k fa fd [x] (spL ⟨K, mg, w⟩ sp)) :
    PySem.W.WalkO q loose XP YP l.row.toRowW d [] (fun f vs => PySem.call f vs) := by
  refine Att.attach_call hn hdf fun w s₀ s₁ mg mb fa o pm cd doc a vs ns G Y ho hd hcd hmg hobj hints hlen hg => ?_
  obtain ⟨K, fd, sp, KX, hks, hsy, hb, hsp, hF⟩ := F w mg fa _ Y G.T.g hmg
  cases e : s₁.heap.get? sysModules with
  | none => rw [e] at hsy; cases hsy
  | some oS =>
    rw [e] at hsy
    obtain ⟨o1, o2, o3, o4⟩ := oS
    cases o3 with
    | dict es ep => exact law_g KX G.T.g G.T.b G.T.builtins G.T.nolimit hg hks e rfl hobj hints (Nat.le_trans hlen hn2) hr hF hb (hsp ns hlen)
    | _ => cases hsy
end DL

set_option Elab.async false
set_option linter.all false
set_option maxRecDepth 100000
set_option maxHeartbeats 1000000
namespace DL
open PySem L2
section
variable {X : Cx} {W : WX} {a b e : Expr} {es : List Expr} {ta tb t : DT} {tr : DA} {pos p pos' : Pos} {st : Stmt} {fld : Str} {C fI : Addr}
theorem xk_ty {K : PySem.W.Frag} {bmB : List Value} {newId : String} (h : PySem.W.excInitIn K C bmB newId = true) : PySem.W.typeIn K (.ref C) = some (.type "type") := by
  unfold PySem.W.excInitIn at h
  split at h
  · rename_i q
    show (K.lookup C).map (·.cls) = _
    rw [q]; rfl
  · cases h
/-- an exception made to be raised: its dict alone is told -/
def rMkX (C : Addr) (fld : Str) (v : V) (H : Hp) (Q : XK) : Prop := ∀ dx, H dx = none → Q (.ref C) (some dx) (upd H dx (.xd [(fld, v)]))
theorem mk_pm {k : Nat} (S : XcS st fld) (T : XcK X.prog X.K st fld C fI) (hsu : X.mg "super" = none) (hbx : PySem.W.subIn X.K (.ref C) (.type "BaseException") = some true) (hr : Room (k + 1) X.A) {pins : List (Addr × Obj)} {σ : L2.St} {H : Hp} {s : Shared} {Q : XK} {v : V} {u : Value} {us : List Value} {kw : List (Str × Value)}
    (hu : (us = [u] ∧ kw = []) ∨ (us = [] ∧ kw = [(fld, u)])) (I : Inv X pins σ H s) (r : RelV v u) (h : rMkX C fld v H Q) : wpAny (model X.prog X.w) X.A (call (.ref C) us kw) (MkP X pins σ Q) X.xe s := by
  obtain ⟨B, newId, initId, bmB, FB, KF, SF, hin, hov, hsi, hsb⟩ := T.base
  obtain ⟨nm, Nc, qn, bs, bm, hd, sn, sub, ab, col, dd, k0, k1, k2, k3, k5, hC, hT⟩ := PySem.W.excInit_of I.kIn hin
  obtain ⟨hp, gs, dr, tk, os⟩ := s
  have kk : ∀ b o, hp.get? b = some o → ((hp.push (PySem.W.kdv_tup us)).push (PySem.HandSPX.excO C hp.objs.size)).get? b = some o := fun b o z => Heap.get?_push_of_some _ (Heap.get?_push_of_some _ z)
  have hg : ((hp.push (PySem.W.kdv_tup us)).push (PySem.HandSPX.excO C hp.objs.size)).get? (hp.objs.size + 1) = some (PySem.HandSPX.excO C hp.objs.size) := by heap_get
  have sz : ((hp.push (PySem.W.kdv_tup us)).push (PySem.HandSPX.excO C hp.objs.size)).objs.size = hp.objs.size + 2 := by rw [Heap.size_push, Heap.size_push]
  have I2 : Inv X pins σ H ⟨(hp.push (PySem.W.kdv_tup us)).push (PySem.HandSPX.excO C hp.objs.size), gs, dr, tk, os⟩ := I.kept (t' := tk) kk
  obtain ⟨mb, h1, h2⟩ := I2.mod.blt
  refine wpAny_call (xk_call FB hT hC (PySem.W.looks_findIn I.kIn T.iC) (fun x => PySem.W.bind_fn I.kIn x T.tI) (by rcases hu with ⟨rfl, _⟩ | ⟨rfl, _⟩ <;> simp [sizeLine_eq]) ?_)
  refine xk_init S T I2.kIn (I2.mod.nolimit.keeps I2.bk) (I2.mod.glob.keeps I2.bk) hsu ⟨mb, h1.keeps I2.bk, h2⟩ (hr.make C us kw).depth hg ?_ (u := u) ?_ fun h' tk' dx t1 k z ne he ns => ?_
  · cases q : X.K.lookup (hp.objs.size + 1) with
    | none => rfl
    | some o => exact absurd (Heap.lt_size (I.kIn _ _ q)) (by show ¬ (hp.objs.size + 1 < hp.objs.size); omega)
  · rcases hu with ⟨rfl, rfl⟩ | ⟨rfl, rfl⟩
    · exact .inl rfl
    · exact .inr rfl
  · have kf : ∀ b o, hp.get? b = some o → h'.get? b = some o := fun b o q => k b o (Nat.ne_of_lt (Nat.lt_succ_of_lt (Heap.lt_size q))) (kk b o q)
    have zd : hp.objs.size ≤ dx := Nat.le_trans (by rw [sz]; exact Nat.le_add_right _ _) z
    have nd : H dx = none := I.hok.fresh zd
    have nq : H (hp.objs.size + 1) = none := I.hok.fresh (by show hp.objs.size ≤ hp.objs.size + 1; omega)
    obtain ⟨G, g1, g2⟩ := restrict h' fun b => decide (b ≠ hp.objs.size + 1)
    have gk : ∀ b, b ≠ hp.objs.size + 1 → G.get? b = h'.get? b := fun b hb => g1 b (decide_eq_true hb)
    have ge : G.get? (hp.objs.size + 1) = none := g2 _ (by simp)
    have kG : ∀ b o, hp.get? b = some o → G.get? b = some o := fun b o q => by rw [gk b (Nat.ne_of_lt (Nat.lt_succ_of_lt (Heap.lt_size q)))]; exact kf b o q
    have J : Inv X pins σ (upd H dx (.xd [(fld, v)])) ⟨G, gs, dr, tk', os⟩ := I.laid (t' := tk') (a := dx) (o := .xd [(fld, v)]) (h' := G) kG zd ⟨_, ns.at fun o y => by rw [gk dx ne]; exact y, relO_put (fs := []) r fun g => True.intro⟩
    refine ⟨rfl, _, _, _, _, _, _, some dx, rfl, J, fun b o y => ?_, ge, he, ⟨rfl, rfl⟩, rfl, rfl, by rw [upd_ne (Ne.symm ne)]; exact nq, rfl, I.bare, raises_own hbx (xk_ty hin), h dx nd⟩
    by_cases hb : b = hp.objs.size + 1
    · rw [hb, show (⟨G, gs, dr, tk', os⟩ : Shared).heap = G from rfl, ge] at y; cases y
    · rw [← gk b hb]; exact y
def tMkX (C : Addr) (fld : Str) (te : TE) : L2.St → Hp → XK → Prop := fun σ H Q => te σ H fun v H1 => rMkX C fld v H1 Q
theorem pmk_x {k : Nat} {x : Str} {te : TE} (S : XcS st fld) (T : XcK X.prog X.K st fld C fI) (hsu : X.mg "super" = none) (hbx : PySem.W.subIn X.K (.ref C) (.type "BaseException") = some true) (hr : Room (k + 1) X.A) (hg : Gl X x) (hm : X.mg x = some (.ref C)) (he : PE X e te) (hdb : (x == ("__debug__" : Str)) = false := by decide)
    (h1 : starEach [e] X.env = (false, eval e X.env) :: starEach [] X.env := by rfl) : PMk X (.Call (.Name x p) [e] [] pos) (tMkX C fld te) :=
  fun pins s σ H Q I h => wpAny_Call_Name_kw (ld_glob I hg hm (PySem.W.callWith_K (h₀ := X.base) I.ok.mod.kin T.kp (by
    rw [h1]
    refine Calls.spliced_cons (thn (he.run pins s σ H _ I h) fun u s1 ⟨v, H1, I1, r, q⟩ => Calls.spliced_nil ⟨I1.kIn, ?_⟩)
    exact mk_pm S T hsu hbx hr (.inl ⟨rfl, rfl⟩) I1 r q) h1 rfl) hdb)
/-- raise C(e) -/
def dRaise (c fld : Str) (t : DT) : DSt := fun R De ρ => t R ρ (fun R d => De.ex R c [(fld, d)] ρ) (fun R c fs => De.ex R c fs ρ)
theorem ds_raise {k : Nat} {x : Str} (hc : X.calm = true) (tk : Takes X W) (T : XcD X.prog X.K X.mg x fld) (hbx : ∀ C, X.mg x = some (.ref C) → PySem.W.subIn X.K (.ref C) (.type "BaseException") = some true) (hsu : X.mg "super" = none) (hr : Room (k + 1) X.A) (hg : Gl X x) (he : DE X W e t) (hdb : (x == ("__debug__" : Str)) = false := by decide)
    (h1 : starEach [e] X.env = (false, eval e X.env) :: starEach [] X.env := by rfl) : DS X W (.Raise (some (.Call (.Name x p) [e] [] pos)) none pos') (dRaise x fld t) := by
  obtain ⟨_, _, _, S, T, hm⟩ := T.ex
  refine (ps_raise hc tk (pmk_x S T hsu (hbx _ hm) hr hg hm he hdb h1)).imp fun En σ H ⟨R, F0, B, Fz, ρ, De, s, q, x⟩ => ?_
  refine ⟨R, Fz, B, ρ, _, _, s.wd, s.sl, q, fun R1 v H1 B1 d e1 w1 h1 q1 dx nd => ?_, x.xl s⟩
  exact (x.xl s) R1 _ _ dx _ _ _ _ hm (e1.trans (Ex.new (w1.free nd))) (w1.new nd) upd_same (.cons (h1.mono (Ex.new (w1.free nd))) .nil) q1
end
end DL

set_option Elab.async false
set_option linter.all false
set_option maxRecDepth 100000
set_option maxHeartbeats 1000000
namespace DL
open PySem L2
section
variable {X : Cx} {W : WX} {a b c e e2 tg : Expr} {es rest : List Expr} {ta tb tc t : DT} {tr : DA} {pos : Pos} {js : List Nat} {g : DG}
/-- name = [.. for .. for ..], on one line -/
theorem ds_setLc2 {i : Nat} {y : Str} {py : Pos} {iter elt tg1 iter1 : Expr} {ifs ifs1 : List Expr} {scope : Scope} {own : List (Str × Nat)} {vs1 js1 : List Nat} {spos : Pos} {ti ti1 : DI} {g1 : DG} {tt tt1 : DB} {te : DT} (hc : X.calm = true) (hN : X.N.Nodup) (hy : X.N[i]? = some y) (hyl : X.env.scope.names.lookup y = some .local)
    (hsw : swapsWith (.ListComp elt [⟨tg, iter, ifs, 0⟩, ⟨tg1, iter1, ifs1, 0⟩] scope pos) (some (.Name y py)) spos.line X.env = pure true) (hi : DIt X W tg iter ti) (ok : BlkOk X.N X.env.scope scope own) (hv : ∀ i ∈ vs1, i ∈ own.map (·.2))
    (hg : ∀ (s : Shared) (H : Hp) (C : Addr) (cl : List (Str × Addr)) (fp : List Addr), DGt (X.blk s H scope (compEnvC scope cl C X.env) fp) js tg g) (ht : ∀ (s : Shared) (H : Hp) (C : Addr) (cl : List (Str × Addr)) (fp : List Addr), PTs (X.blk s H scope (compEnvC scope cl C X.env) fp) ifs (liftB X.md W0 tt))
    (hi1 : ∀ (s : Shared) (H : Hp) (C : Addr) (cl : List (Str × Addr)) (fp : List Addr), DIt (X.blk s H scope (compEnvC scope cl C X.env) fp) W0 tg1 iter1 ti1) (hg1 : ∀ (s : Shared) (H : Hp) (C : Addr) (cl : List (Str × Addr)) (fp : List Addr), DGt (X.blk s H scope (compEnvC scope cl C X.env) fp) js1 tg1 g1)
    (ht1 : ∀ (s : Shared) (H : Hp) (C : Addr) (cl : List (Str × Addr)) (fp : List Addr), PTs (X.blk s H scope (compEnvC scope cl C X.env) fp) ifs1 (liftB X.md W0 tt1)) (he : ∀ (s : Shared) (H : Hp) (C : Addr) (cl : List (Str × Addr)) (fp : List Addr), DE (X.blk s H scope (compEnvC scope cl C X.env) fp) W0 elt te)
    (hj : ∀ i ∈ js, i ∈ own.map (·.2) := by decide) (hj1 : ∀ i ∈ js1, i ∈ vs1 := by decide) (hs : ∀ x, foldedSetIterable iter X.env x = pure x := by intro _; rfl) (hs1 : ∀ env x, foldedSetIterable iter1 env x = pure x := by intro _ _; rfl) :
    DS X W (.Assign [.Name y py] (.ListComp elt [⟨tg, iter, ifs, 0⟩, ⟨tg1, iter1, ifs1, 0⟩] scope pos) spos) (dSet i (dLc2 ti g tt ti1 g1 tt1 te (own.map (·.2)) vs1)) :=
  (ps_setLc2 hc hN hy hyl hsw hi ok hv hg ht hi1 hg1 ht1 he hs hs1).imp fun En σ H ⟨R, F0, B, Fz, ρ, De, s, q, x⟩ =>
    lc2_lift hj hj1 ⟨R, Fz, B, ρ, _, _, s.wd, s.sl, q, fun R v H' B' d e w h q1 => x.nx R _ _ B' Fz H' e ((s.grow e w).set h) q1, x.xl s⟩
end
end DL

set_option Elab.async false
set_option linter.all false
set_option maxRecDepth 100000
set_option maxHeartbeats 1000000
namespace DL
open PySem L2 PySem.Spec PyProof.Rows
/-! ### * -/
section
variable {X : Cx} {W : WX} {a b c e e2 tg : Expr} {es rest : List Expr} {ta tb tc t : DT} {tr : DA} {pos : Pos}
def rRepF (K : PySem.W.Frag) : R2 := fun x y H Q => ∃ l k xs, x = .ref l ∧ y = .int k ∧ SqT K H l xs ∧ xs ≠ [] ∧ 2 ≤ k ∧ k ≤ 1000 ∧ xs.length ≤ 1000 ∧ ∀ p (o : Obj), H p = none → o.dict = none → Q (.ref p) (upd H p (.frz o (.tup (List.replicate k.toNat xs).flatten)))
theorem op_repF : OpR X (binaryOp .Mult) (rRepF X.K) := by
  rintro pins s σ H _ _ v u Q I rx ry ⟨l, k, xs, rfl, rfl, hT, hne, g1, g2, hz, q⟩
  cases rx
  obtain ⟨tk, rfl⟩ := ry
  obtain ⟨its, r, ⟨⟨cl, dd, dt, sl⟩, ho, hc, n, hd⟩, hs⟩ := I.tuple hT
  simp only at hc hd
  subst hc hd
  have hle : its.length = xs.length := r.length.symm
  have nn : its.toArray.isEmpty = false := by
    cases its with
    | nil => exact absurd (List.eq_nil_of_length_eq_zero hle.symm) hne
    | cons _ _ => rfl
  have z0 : its.toArray.size = xs.length := by rw [List.size_toArray]; exact hle
  have z1 : ((its.toArray.size : Nat) : Int) * k ≤ 1000000 := by
    rw [z0]
    have q1 : ((xs.length : Nat) : Int) * k ≤ 1000 * k := Int.mul_le_mul_of_nonneg_right (by omega) (by omega)
    omega
  have z2 : ∀ m : Nat, m = xs.length → k.toNat * m ≤ sizeLine := fun m hm => by
    rw [hm, sizeLine_eq]
    have q1 : k.toNat * xs.length ≤ 1000 * 1000 := Nat.mul_le_mul (by omega) hz
    omega
  have c0 : (decide (k < -(2 ^ 63)) || decide (k ≥ 2 ^ 63)) = false := by
    rw [decide_eq_false (by omega : ¬ k < -(2 ^ 63)), decide_eq_false (by omega : ¬ k ≥ 2 ^ 63)]; rfl
  have c1 : (its.toArray.isEmpty || k == 1) = false := by rw [nn]; exact beq_eq_false_iff_ne.mpr (by omega)
  have c2 : (decide (k ≤ 0) || its.toArray.isEmpty) = false := by rw [nn]; simp; omega
  have c4 : Builtin.Tuple.tupleTooMany (((its.toArray.size : Nat) : Int) * k) = false := by
    unfold Builtin.Tuple.tupleTooMany; rw [sizeLine_eq]; exact decide_eq_false (by omega)
  refine wpAny_binaryOp_repeat_ref (T := "tuple") (U := "int") (by decide) ⟨_, ho, rfl⟩ (fun s' => typeIs_int s' k tk) noFill_tuple_mul F.fills_int_mul F.slot_int_rmul repeat_tuple F.slot_int_index.lookup
    (call_meets F.slot_int_rmul (typeIs_int s k tk) F.entry_int_rmul (F.args_int_rmul_2 _ _) (int_rmul_tuple k tk l its.toArray n dd sl)
      ⟨ho, rfl, ⟨_, ho, rfl⟩, call_meets F.slot_tuple_mul ⟨_, ho, rfl⟩ F.entry_tuple_mul (F.args_tuple_mul_2 _ _)
        (tuple_mulW l its.toArray n dd sl k tk c0 c1 c2 (by omega) c4 (by rw [size_rep, List.size_toArray, PyProof.Rows.lm_len_rep_flat]; exact z2 _ hle)) ⟨ho, ?_⟩⟩)
  rw [size_rep]
  exact ⟨.ref s.heap.objs.size, _, laid_tup I (r.rep k.toNat) (by rw [PyProof.Rows.lm_len_rep_flat]; exact z2 _ rfl), rfl, q _ _ (I.hok.fresh (Nat.le_refl _)) rfl⟩
def rMulS : R2 := fun x y H Q => ∃ (z : Str) (n : Int), x = .str z ∧ y = .int n ∧ PySem.MulOk z n ∧ Q (.str (Txt.mul z n)) H
theorem op_mulS : OpR X (binaryOp .Mult) rMulS := by
  rintro pins s σ H _ _ v u Q I rx ry ⟨z, n, rfl, rfl, hok, q⟩
  obtain ⟨t1, rfl⟩ := rx
  obtain ⟨t2, rfl⟩ := ry
  exact SB.mul hok fun t' k => ⟨.str _, H, I.tok k, ⟨t', rfl⟩, q⟩
theorem Dps.rep {M : Md} {B : Hp} {vs : List V} {ds : List D} (h : Dps M B vs ds) : ∀ n : Nat, Dps M B (List.replicate n vs).flatten (List.replicate n ds).flatten
  | 0 => .nil
  | n + 1 => by
    rw [List.replicate_succ, List.replicate_succ, List.flatten_cons, List.flatten_cons]
    exact h.append (Dps.rep h n)
def fMul : F2
  | .int i, .int j, Q => CMul i j ∧ Q (.int (i * j))
  | .str x, .int n, Q => PySem.MulOk x n ∧ Q (.str (Txt.mul x n))
  | .tup ds, .int k, Q => ds ≠ [] ∧ 2 ≤ k ∧ k ≤ 1000 ∧ ds.length ≤ 1000 ∧ Q (.tup (List.replicate k.toNat ds).flatten)
  | _, _, _ => False
abbrev rMulAll (K : PySem.W.Frag) : R2 := fun x y H Q => (rI CMul fun i j => .int (i * j)) x y H Q ∨ (fun x y H Q => rMulS x y H Q ∨ rRepF K x y H Q) x y H Q
theorem opMul : OpR X (binaryOp .Mult) (rMulAll X.K) := op_mul.or (op_mulS.or op_repF)
theorem fMul_ok {M : Md} : OpD M (rMulAll M.K) fMul := by
  intro R Fz B H x y dx dy Qd Q w hx hy h k
  unfold fMul at h
  split at h
  · cases hx; cases hy
    exact .inl ⟨_, _, rfl, rfl, h.1, k _ H B _ (Ex.refl B) w (.int _) h.2⟩
  · cases hx; cases hy
    exact .inr (.inl ⟨_, _, rfl, rfl, h.1, k _ H B _ (Ex.refl B) w (.str _) h.2⟩)
  · obtain ⟨h1, h2, h3, h4, h5⟩ := h
    cases hy
    cases hx with
    | @tup a xs _ sx hx =>
    have l1 := hx.length
    refine .inr (.inr ⟨a, _, xs, rfl, rfl, w.ex.st sx.st, fun z => ?_, h2, h3, by omega, fun p o hp ho => ?_⟩)
    · subst z; cases hx; exact h1 rfl
    · exact k _ _ _ _ (Ex.new (w.free hp)) (w.new hp) (.tup (.new ho) ((hx.rep _).mono (Ex.new (w.free hp)))) h5
  · exact h.elim
theorem de_mul (ha : DE X W a ta) (hb : DE X W b tb) : DE X W (.BinOp a .Mult b pos) (dBin fMul ta tb) := de_bin opMul fMul_ok ha hb
end
end DL

set_option Elab.async false
set_option linter.all false
set_option maxRecDepth 100000
set_option maxHeartbeats 1000000
namespace DL
open PySem L2 PySem.Spec PyProof.Rows
/-! ### xs[::-1] of tuples -/
section
variable {prog : Program} {w : World} {A : Around} {E : Value → Shared → Prop} {s : Shared}
theorem rev_adjust (n : Nat) : Builtin.Slice.sliceAdjust none none (-1) (n : Int) = ((n : Int) - 1, -1) := by
  unfold Builtin.Slice.sliceAdjust
  have h1 : ((-1 : Int) < 0) := by omega
  simp only [h1, if_true]
theorem rev_places (n : Nat) : Builtin.Slice.slicePlaces ((n : Int) - 1) (-1) (-1) = n := by
  unfold Builtin.Slice.slicePlaces
  have h1 : ¬ ((-1 : Int) > 0) := by omega
  simp only [h1, if_false]
  split
  · simp
  · omega
theorem rev_pick (xs : Array Value) : ((List.range xs.size).filterMap fun (m : Nat) => xs[((xs.size : Int) - 1 + (m : Int) * (-1)).toNat]?).toArray = xs.toList.reverse.toArray := by
  have e : (fun (m : Nat) => xs[((xs.size : Int) - 1 + (m : Int) * (-1)).toNat]?) = (fun z => xs[z]?) ∘ fun k => xs.size - 1 - k := by
    funext m
    show xs[_]? = xs[xs.size - 1 - m]?
    congr 1
    omega
  rw [e, ← List.filterMap_map, PySem.W.krv_range, List.filterMap_reverse, PySem.W.krv_all]
theorem rev_applied {sl : Addr} {vs : Value} {n : Nat} {Q : Int × Int × Nat → Shared → Prop} (hs : s.heap.IsSliceOf sl .none .none vs) (ps : IsPart vs (some (-1)))
    (h : Q ((n : Int) - 1, -1, n) s) : wpAny (model prog w) A (Builtin.Slice.sliceApplied (.ref sl) (pure (n : Int))) Q E s := by
  obtain ⟨os, hos, hcs, hds⟩ := id hs
  unfold Builtin.Slice.sliceApplied Builtin.Slice.sliceFields
  refine wpAny_bind (wpAny_bind (wpAny_field hos hds (x := .none) rfl (wpAny_bind (wpAny_field hos hds (x := .none) rfl (wpAny_bind (wpAny_field hos hds (x := vs) rfl (wpAny_pure ?_)))))))
  refine wpAny_bind (HT.slicePart_ ps ?_)
  show wpAny _ _ (if ((-1 : Int) == 0) = true then _ else _) _ _ s
  rw [if_neg (by decide)]
  refine wpAny_bind (HT.slicePart_ .none (wpAny_bind (HT.slicePart_ .none (wpAny_bind (wpAny_pure ?_)))))
  show wpAny _ _ (match Builtin.Slice.sliceAdjust none none (-1) (n : Int) with | (lo, hi) => pure (lo, (-1 : Int), Builtin.Slice.slicePlaces lo hi (-1))) _ _ s
  rw [rev_adjust n]
  show wpAny _ _ (pure ((n : Int) - 1, (-1 : Int), Builtin.Slice.slicePlaces ((n : Int) - 1) (-1) (-1))) _ _ s
  rw [rev_places]
  exact wpAny_pure h
theorem getItem_rev {t sl : Addr} {items : Array Value} {vs : Value} {Q : Value → Shared → Prop} (ht : IsTup s.heap t items) (hs : s.heap.IsSliceOf sl .none .none vs) (ps : IsPart vs (some (-1)))
    (h : Q (.ref s.heap.objs.size) { s with heap := s.heap.push { cls := .type "tuple", data := .seq items.toList.reverse.toArray } }) (hz : items.size ≤ sizeLine) : wpAny (model prog w) A (getItem (.ref t) (.ref sl)) Q E s := by
  have hk : sizeOk (.seq items.toList.reverse.toArray) := by
    show items.toList.reverse.toArray.size ≤ sizeLine
    rw [List.size_toArray, List.length_reverse, Array.length_toList]; exact hz
  obtain ⟨os, hos, hcs, hds⟩ := id hs
  have ty : s.TypeIs (.ref sl) "slice" := ⟨os, hos, hcs⟩
  unfold getItem
  try with_reducible refine wpAny_holding ?_
  first
    | refine wpAny_bind (wpAny_pure ?_)
    | skip
  refine wpAny_bind (wpAny_sequenceKey ht.typeIs (by decide) ?_)
  refine wpAny_bind (wpAny_callSpecial?_slot (name := Str.ofString "__getitem__") ht.typeIs slot_tuple_getitem (wpAny_call_entry slot_tuple_getitem ht.typeIs entry_tuple_getitem ?_ (args_tuple_getitem _ _)))
  show wpAny _ _ (Builtin.Tuple.tupleItemsOf (.ref t) >>= _) _ _ s
  refine wpAny_bind (PyProof.Rows.tupleItemsOf_ ht (wpAny_bind (wpAny_typeOf ty ?_)))
  rw [if_pos (by decide)]
  refine wpAny_bind (rev_applied (n := items.size) hs ps ?_)
  have hno : ¬ ((((items.size : Int) - 1) == 0 && (-1 : Int) == 1 && items.size == items.size) = true) := by
    intro q
    rw [Bool.and_eq_true, Bool.and_eq_true] at q
    exact absurd (eq_of_beq q.1.2) (by decide)
  show wpAny _ _ (if (((items.size : Int) - 1) == 0 && (-1 : Int) == 1 && items.size == items.size) = true then _ else _) _ _ s
  rw [if_neg hno, rev_pick]
  first
    | exact wpAny_bind (m := Builtin.Tuple.tupleExact _) (wpAny_newObj_type (wpAny_pure ⟨_, rfl, wpAny_pure h⟩) hk)
    | exact wpAny_bind (m := Builtin.Tuple.tupleExact _) (wpAny_newObj_type (wpAny_bind (wpAny_pure (wpAny_pure ⟨_, rfl, wpAny_pure h⟩))) hk)
    | exact wpAny_bind (wpAny_bind (m := Builtin.Tuple.tupleExact _) (wpAny_newObj_type (wpAny_pure (wpAny_pure ⟨_, rfl, wpAny_pure h⟩)) hk))
    | exact wpAny_bind (wpAny_bind (m := Builtin.Tuple.tupleExact _) (wpAny_newObj_type (wpAny_pure ⟨_, rfl, wpAny_pure h⟩) hk))
end
section
variable {X : Cx} {W : WX} {e : Expr} {t : DT} {pos : Pos}
def tRevT (K : PySem.W.Frag) (te : TE) : TE := fun σ H Q => te σ H fun x H1 => ∃ a xs, x = .ref a ∧ SqT K H1 a xs ∧ ∀ p (o : Obj), H1 p = none → o.dict = none → Q (.ref p) (upd H1 p (.frz o (.tup xs.reverse)))
theorem pe_revT {te : TE} {k : Nat} {p1 p2 p3 : Pos} (he : PE X e te) : PE X (.Subscript e (.Slice none none (some (.UnaryOp .USub (.Constant (.int 1) k p1) p2)) p3) pos) (tRevT X.K te) := by
  refine ⟨fun pins s σ H Q I h => Subscript_ (thn (he.run pins s σ H _ I h) fun v s1 ⟨x, H1, I1, r1, a, xs, ex, hx, q⟩ => ?_)⟩
  subst ex
  cases r1
  have hst : PO X (some (.UnaryOp .USub (.Constant (.int 1) k p1) p2)) (tPart (tUn (rU fun i => .int (-i)) (tC (.int 1)))) :=
    po_some (pe_un un_neg pe_int)
  refine wpAny_Slice (thn (po_none.run pins s1 σ H1 (fun o H2 => o = none ∧ H2 = H1) I1 ⟨rfl, rfl⟩) fun vl s2 ⟨l, H2, I2, pl, el, e2⟩ => ?_)
  subst el e2
  refine thn (po_none.run pins s2 σ H2 (fun o H3 => o = none ∧ H3 = H2) I2 ⟨rfl, rfl⟩) fun vu s3 ⟨u, H3, I3, pu, eu, e3⟩ => ?_
  subst eu e3
  refine thn (hst.run pins s3 σ H3 (fun o H4 => o = some (-1) ∧ H4 = H3) I3 ⟨1, rfl, -1, rfl, rfl, rfl⟩) fun vs s4 ⟨o, H4, I4, ps, eo, e4⟩ => ?_
  subst eo e4
  cases pl
  cases pu
  have I5 : Inv X pins σ H4 { s4 with heap := s4.heap.push { cls := .type "slice", data := .fields #[.none, .none, vs] } } :=
    I4.kept (t' := s4.toks) fun b ob z => Heap.get?_push_of_some _ z
  obtain ⟨its, r, ht, hz⟩ := I5.tuple hx
  refine tail_any (ops := [.ref a, .ref s4.heap.objs.size]) ht.typeIs slot_tuple_getitem.lookup ?_ (by with_unfolding_all rfl)
  refine getItem_rev ht (Heap.IsSliceOf.new _ .none .none vs) ps ?_ (by rw [List.size_toArray, ← r.length]; exact hz)
  exact ⟨.ref _, _, laid_tup I5 r.reverse (by rw [List.length_reverse]; exact hz), rfl, q _ _ (I5.hok.fresh (Nat.le_refl _)) rfl⟩
def dRev (t : DT) : DT := fun R ρ Q E => t R ρ (fun R d => ∃ ds, d = .tup ds ∧ Q R (.tup ds.reverse)) E
theorem de_rev {k : Nat} {p1 p2 p3 : Pos} (he : DE X W e t) : DE X W (.Subscript e (.Slice none none (some (.UnaryOp .USub (.Constant (.int 1) k p1) p2)) p3) pos) (dRev t) :=
  (pe_revT he).imp fun σ H Q ⟨R, Fz, B, ρ, Qd, E, w, sl, q, k, x⟩ => ⟨R, Fz, B, ρ, _, E, w, sl, q, fun R v H1 B1 d e1 w1 h1 ⟨ds, ed, q1⟩ => by
    subst ed
    cases h1 with
    | tup s h => exact ⟨_, _, rfl, w1.ex.st s.st, fun p o hp ho => k R _ _ _ _ (e1.trans (Ex.new (w1.free hp))) (w1.new hp) (.tup (.new ho) (h.rev.mono (Ex.new (w1.free hp)))) q1⟩, x⟩
end
end DL

set_option Elab.async false
set_option linter.all false
set_option maxRecDepth 100000
set_option maxHeartbeats 1000000
namespace DL
open PySem L2
variable {M : Md}
/-! ### what a piece of the text computes, as a function -/
/-- the state: the draws (where they lie, how many at most), the objects that change -/
structure Ds where
  dr : Option (Addr × Int) := none
  ob : List (Addr × D) := []
def Ds.tick (s : Ds) : Ds := { s with dr := s.dr.map fun p => (p.1, p.2 + 1) }
def drOf : Option (Addr × Int) → Res
  | none => emp
  | some (a, n) => drawR a n
/-- an object that changes -/
def objR (M : Md) (a : Addr) (d : D) : Res where
  ok := fun B G => match d with
    | .lst ds => ∃ vs, G a = some (.lst vs) ∧ Dps M B vs ds
    | .obj c fs => ∃ C dx vs, M.mg c = some (.ref C) ∧ G a = some (.ins C dx vs) ∧ Dpf M B vs fs
    | .own (.str q) => ∃ ps : Array Value, G a = some (.tbl ps) ∧ TriplesOk ps.toList ∧ ∀ (pos : Pos) (cv : Value), codeAmong pos ps.toList = some cv → ∃ c, cv = .ref c ∧ B c = some (LamX.CodeO c q)
    | _ => False
  mono := fun B B' G e h => by
    split at h
    · obtain ⟨vs, h1, h2⟩ := h; exact ⟨vs, h1, h2.mono e⟩
    · obtain ⟨C, dx, vs, h1, h2, h3⟩ := h; exact ⟨C, dx, vs, h1, h2, h3.mono e⟩
    · obtain ⟨ps, h1, h2, h3⟩ := h; exact ⟨ps, h1, h2, fun pos cv hc => let ⟨c, e1, e2⟩ := h3 pos cv hc; ⟨c, e1, e _ _ e2⟩⟩
    · exact h
def obsR (M : Md) : List (Addr × D) → Res
  | [] => emp
  | (a, d) :: r => (objR M a d).star (obsR M r)
def resOf (M : Md) (s : Ds) : Res := (drOf s.dr).star (obsR M s.ob)
/-- what a piece of the text does: what must hold ahead for what is wished behind -/
structure Out (α : Type) where
  post : (α → Ds → Prop) → (Str → List (Str × D) → Ds → Prop) → Prop
  mono : ∀ {Q Q' : α → Ds → Prop} {E E' : Str → List (Str × D) → Ds → Prop}, (∀ a s, Q a s → Q' a s) → (∀ c fs s, E c fs s → E' c fs s) → post Q E → post Q' E'
namespace Out
variable {α β γ : Type}
theorem ext' {x y : Out α} (h : ∀ Q E, x.post Q E ↔ y.post Q E) : x = y := by
  cases x; cases y
  congr
  exact funext fun Q => funext fun E => propext (h Q E)
def ok (a : α) (s : Ds) : Out α := ⟨fun Q _ => Q a s, fun h _ q => h _ _ q⟩
def exc (c : Str) (fs : List (Str × D)) (s : Ds) : Out α := ⟨fun _ E => E c fs s, fun _ h q => h _ _ _ q⟩
def err : Out α := ⟨fun _ _ => False, fun _ _ q => q⟩
def draw (k : Int) (f : Int → Out α) : Out α := ⟨fun Q E => ∀ r, 0 ≤ r → r < k → (f r).post Q E, fun h1 h2 q r a b => (f r).mono h1 h2 (q r a b)⟩
def anyA (f : Addr → Out α) : Out α := ⟨fun Q E => ∀ a, (f a).post Q E, fun h1 h2 q a => (f a).mono h1 h2 (q a)⟩
/-- some number of turns is enough -/
def fuel (f : Nat → Out α) : Out α := ⟨fun Q E => ∃ n, (f n).post Q E, fun h1 h2 ⟨n, q⟩ => ⟨n, (f n).mono h1 h2 q⟩⟩
def bind2 (g : Str → List (Str × D) → Ds → Out β) (f : α → Ds → Out β) (x : Out α) : Out β := ⟨fun Q E => x.post (fun a s => (f a s).post Q E) (fun c fs s => (g c fs s).post Q E),
  fun h1 h2 q => x.mono (fun a s z => (f a s).mono h1 h2 z) (fun c fs s z => (g c fs s).mono h1 h2 z) q⟩
/-- an error passes -/
def bind (x : Out α) (f : α → Ds → Out β) : Out β := bind2 exc f x
/-- an error may not come -/
def bindN (x : Out α) (f : α → Ds → Out β) : Out β := bind2 (fun _ _ _ => err) f x
theorem post_mono {Q Q' : α → Ds → Prop} {E E' : Str → List (Str × D) → Ds → Prop} (h1 : ∀ a s, Q a s → Q' a s) (h2 : ∀ c fs s, E c fs s → E' c fs s) (x : Out α) (h : x.post Q E) : x.post Q' E' := x.mono h1 h2 h
theorem post_bind2 {g : Str → List (Str × D) → Ds → Out β} {f : α → Ds → Out β} {Q : β → Ds → Prop} {E : Str → List (Str × D) → Ds → Prop} (x : Out α) : (x.bind2 g f).post Q E ↔ x.post (fun a s => (f a s).post Q E) (fun c fs s => (g c fs s).post Q E) := Iff.rfl
theorem post_bind {f : α → Ds → Out β} {Q : β → Ds → Prop} {E : Str → List (Str × D) → Ds → Prop} (x : Out α) : (x.bind f).post Q E ↔ x.post (fun a s => (f a s).post Q E) E := Iff.rfl
theorem post_bindN {f : α → Ds → Out β} {Q : β → Ds → Prop} {E : Str → List (Str × D) → Ds → Prop} (x : Out α) : (x.bindN f).post Q E ↔ x.post (fun a s => (f a s).post Q E) (fun _ _ _ => False) := Iff.rfl
@[simp] theorem post_ok {a : α} {s : Ds} {Q : α → Ds → Prop} {E : Str → List (Str × D) → Ds → Prop} : (ok a s).post Q E ↔ Q a s := Iff.rfl
@[simp] theorem post_exc {c : Str} {fs : List (Str × D)} {s : Ds} {Q : α → Ds → Prop} {E : Str → List (Str × D) → Ds → Prop} : (exc c fs s : Out α).post Q E ↔ E c fs s := Iff.rfl
@[simp] theorem post_err {Q : α → Ds → Prop} {E : Str → List (Str × D) → Ds → Prop} : (err : Out α).post Q E ↔ False := Iff.rfl
theorem post_draw {k : Int} {f : Int → Out α} {Q : α → Ds → Prop} {E : Str → List (Str × D) → Ds → Prop} : (draw k f).post Q E ↔ ∀ r, 0 ≤ r → r < k → (f r).post Q E := Iff.rfl
theorem post_anyA {f : Addr → Out α} {Q : α → Ds → Prop} {E : Str → List (Str × D) → Ds → Prop} : (anyA f).post Q E ↔ ∀ a, (f a).post Q E := Iff.rfl
theorem anyA_const (x : Out α) : (anyA fun _ => x) = x := ext' fun _ _ => ⟨fun h => h 0, fun h _ => h⟩
@[simp] theorem bind_ok (a : α) (s : Ds) (f : α → Ds → Out β) : (ok a s).bind f = f a s := rfl
@[simp] theorem bind_exc (c : Str) (fs : List (Str × D)) (s : Ds) (f : α → Ds → Out β) : (exc c fs s).bind f = exc c fs s := rfl
@[simp] theorem bind_err (f : α → Ds → Out β) : (err).bind f = err := rfl
@[simp] theorem bind_draw (k : Int) (h : Int → Out α) (f : α → Ds → Out β) : (draw k h).bind f = draw k fun r => (h r).bind f := rfl
@[simp] theorem bind_anyA (h : Addr → Out α) (f : α → Ds → Out β) : (anyA h).bind f = anyA fun r => (h r).bind f := rfl
@[simp] theorem bindN_ok (a : α) (s : Ds) (f : α → Ds → Out β) : (ok a s).bindN f = f a s := rfl
@[simp] theorem bindN_exc (c : Str) (fs : List (Str × D)) (s : Ds) (f : α → Ds → Out β) : (exc c fs s).bindN f = err := rfl
@[simp] theorem bindN_err (f : α → Ds → Out β) : (err).bindN f = err := rfl
@[simp] theorem bindN_draw (k : Int) (h : Int → Out α) (f : α → Ds → Out β) : (draw k h).bindN f = draw k fun r => (h r).bindN f := rfl
@[simp] theorem bind2_ok (a : α) (s : Ds) (g : Str → List (Str × D) → Ds → Out β) (f : α → Ds → Out β) : (ok a s).bind2 g f = f a s := rfl
@[simp] theorem bind2_exc (c : Str) (fs : List (Str × D)) (s : Ds) (g : Str → List (Str × D) → Ds → Out β) (f : α → Ds → Out β) : (exc c fs s).bind2 g f = g c fs s := rfl
@[simp] theorem bind2_err (g : Str → List (Str × D) → Ds → Out β) (f : α → Ds → Out β) : (err).bind2 g f = err := rfl
@[simp] theorem bind2_draw (k : Int) (h : Int → Out α) (g : Str → List (Str × D) → Ds → Out β) (f : α → Ds → Out β) : (draw k h).bind2 g f = draw k fun r => (h r).bind2 g f := rfl
theorem bind_assoc (x : Out α) (f : α → Ds → Out β) (g : β → Ds → Out γ) : (x.bind f).bind g = x.bind fun a s => (f a s).bind g := rfl
theorem bind_pure (x : Out α) : x.bind ok = x := rfl
end Out
/-- what goes, or is no way -/
def optO {α : Type} (o : Option α) (s : Ds) : Out α := match o with
  | some a => .ok a s
  | none => .err
@[simp] theorem optO_some {α : Type} (a : α) (s : Ds) : optO (some a) s = .ok a s := rfl
@[simp] theorem optO_none {α : Type} (s : Ds) : optO (none : Option α) s = .err := rfl
theorem post_opt {α : Type} {o : Option α} {s : Ds} {Q : α → Ds → Prop} {E : Str → List (Str × D) → Ds → Prop} (h : (optO o s).post Q E) : ∃ a, o = some a ∧ Q a s := by
  cases o with
  | none => exact h.elim
  | some a => exact ⟨a, rfl, h⟩
abbrev FE := Env → Ds → Out D
abbrev FA := Env → Ds → Out (List D)
abbrev FB := Env → Ds → Out Bool
abbrev FO := Env → Ds → Out (Option Int)
def cps (M : Md) {α : Type} (m : Env → Ds → Out α) : Res → Env → (Res → α → Prop) → DX → Prop := fun R ρ Q E => ∃ s, R = resOf M s ∧ (m ρ s).post (fun d s' => Q (resOf M s') d) (fun c fs s' => E (resOf M s') c fs)
theorem cps_bind {α β : Type} {m : Env → Ds → Out α} {f : α → Ds → Out β} {ρ : Env} {s : Ds} {Q : Res → β → Prop} {E : DX} (h : ((m ρ s).bind f).post (fun d s' => Q (resOf M s') d) (fun c fs s' => E (resOf M s') c fs)) {Q' : Res → α → Prop}
    (k : ∀ a s1, (f a s1).post (fun d s' => Q (resOf M s') d) (fun c fs s' => E (resOf M s') c fs) → Q' (resOf M s1) a) : cps M m (resOf M s) ρ Q' E :=
  ⟨s, rfl, Out.post_mono k (fun _ _ _ z => z) _ ((Out.post_bind _).mp h)⟩
theorem cps_bindN {α β : Type} {m : Env → Ds → Out α} {f : α → Ds → Out β} {ρ : Env} {s : Ds} {Q : Res → β → Prop} {E : DX} (h : ((m ρ s).bindN f).post (fun d s' => Q (resOf M s') d) (fun c fs s' => E (resOf M s') c fs)) {Q' : Res → α → Prop}
    (k : ∀ a s1, (f a s1).post (fun d s' => Q (resOf M s') d) (fun c fs s' => E (resOf M s') c fs) → Q' (resOf M s1) a) : cps M m (resOf M s) ρ Q' noX :=
  ⟨s, rfl, Out.post_mono k (fun _ _ _ z => z) _ ((Out.post_bindN _).mp h)⟩
section
variable {X : Cx} {W : WX} {a b c e e2 tg : Expr} {es rest : List Expr} {ta tb tc t : DT} {tA tB' : DB} {tr : DA} {pos : Pos}
theorem de_mono {t t' : DT} (h : DE X W e t) (f : ∀ R ρ Q E, t' R ρ Q E → t R ρ Q E) : DE X W e t' := h.imp fun σ H Q ⟨R, Fz, B, ρ, Qd, E, w, sl, q, k, x⟩ => ⟨R, Fz, B, ρ, Qd, E, w, sl, f _ _ _ _ q, k, x⟩
theorem da_mono {t t' : DA} (h : DAs X W es t) (f : ∀ R ρ Q E, t' R ρ Q E → t R ρ Q E) : DAs X W es t' := h.imp fun σ H Q ⟨R, Fz, B, ρ, Qd, E, w, sl, q, k, x⟩ => ⟨R, Fz, B, ρ, Qd, E, w, sl, f _ _ _ _ q, k, x⟩
theorem dt_mono {t t' : DB} (h : DTt X W e t) (f : ∀ R ρ Q E, t' R ρ Q E → t R ρ Q E) : DTt X W e t' := h.imp fun σ H Q ⟨R, Fz, B, ρ, Qd, E, w, sl, q, k, x⟩ => ⟨R, Fz, B, ρ, Qd, E, w, sl, f _ _ _ _ q, k, x⟩
theorem dw_mono {t t' : DB} (h : DW X W e t) (f : ∀ R ρ Q E, t' R ρ Q E → t R ρ Q E) : DW X W e t' := h.imp fun σ H Q ⟨R, Fz, B, ρ, Qd, E, w, sl, q, k, x⟩ => ⟨R, Fz, B, ρ, Qd, E, w, sl, f _ _ _ _ q, k, x⟩
theorem dpo_mono {e : Option Expr} {t t' : DO} (h : DPo X W e t) (f : ∀ R ρ Q E, t' R ρ Q E → t R ρ Q E) : DPo X W e t' := h.imp fun σ H Q ⟨R, Fz, B, ρ, Qd, E, w, sl, q, k, x⟩ => ⟨R, Fz, B, ρ, Qd, E, w, sl, f _ _ _ _ q, k, x⟩
theorem di_mono {t t' : DI} (h : DIt X W tg e t) (f : ∀ R ρ Q E, t' R ρ Q E → t R ρ Q E) : DIt X W tg e t' := h.imp fun σ H Q ⟨R, Fz, B, ρ, Qd, E, w, sl, q, k, x⟩ => ⟨R, Fz, B, ρ, Qd, E, w, sl, f _ _ _ _ q, k, x⟩
theorem dts_mono {t t' : DB} (h : PTs X es (liftB X.md W t)) (f : ∀ R ρ Q E, t' R ρ Q E → t R ρ Q E) : PTs X es (liftB X.md W t') := h.imp fun σ H Q ⟨R, Fz, B, ρ, Qd, E, w, sl, q, k, x⟩ => ⟨R, Fz, B, ρ, Qd, E, w, sl, f _ _ _ _ q, k, x⟩
abbrev ME (X : Cx) (W : WX) (e : Expr) (m : FE) : Prop := DE X W e (cps X.md m)
abbrev MA (X : Cx) (W : WX) (e : List Expr) (m : FA) : Prop := DAs X W e (cps X.md m)
abbrev MT (X : Cx) (W : WX) (e : Expr) (m : FB) : Prop := DTt X W e (cps X.md m)
abbrev MW (X : Cx) (W : WX) (e : Expr) (m : FB) : Prop := DW X W e (cps X.md m)
abbrev MO (X : Cx) (W : WX) (e : Option Expr) (m : FO) : Prop := DPo X W e (cps X.md m)
abbrev MI (X : Cx) (W : WX) (tg e : Expr) (m : FA) : Prop := DIt X W tg e (cps X.md m)
abbrev MTs (X : Cx) (W : WX) (e : List Expr) (m : FB) : Prop := PTs X e (liftB X.md W (cps X.md m))
/-! ### expressions -/
def noOwn (d : D) : Option D := if d.isOwn then none else some d
def mVar (i : Nat) : FE := fun ρ s => match ρ[i]? with
  | some (some d) => optO (noOwn d) s
  | _ => .err
theorem mVar_cps {i : Nat} {R : Res} {ρ : Env} {Q : DQ} {E : DX} (h : cps M (mVar i) R ρ Q E) : dVar i R ρ Q E := by
  obtain ⟨s, rfl, h⟩ := h
  unfold mVar at h
  split at h
  · rename_i d hd
    obtain ⟨a, e, q⟩ := post_opt h
    unfold noOwn at e
    split at e
    · cases e
    · rename_i hn; cases e; exact ⟨_, hd, by simpa using hn, q⟩
  · exact h.elim
theorem me_var (i : Nat) {x : Str} (hN : X.N[i]? = some x := by rfl) (hv : Vis X.env.scope x := by first | exact Or.inl rfl | exact Or.inr (Or.inl rfl) | exact Or.inr (Or.inr rfl)) (hd : (x == ("__debug__" : Str)) = false := by decide)
    (hcd : (x == ("__classdict__" : Str)) = false := by decide) : ME X W (.Name x pos) (mVar i) := de_mono (de_var i hN hv hd hcd) fun _ _ _ _ h => mVar_cps h
def mC (d : D) : FE := fun _ s => .ok d s
theorem mC_cps {d : D} {R : Res} {ρ : Env} {Q : DQ} {E : DX} (h : cps M (mC d) R ρ Q E) : dC d R ρ Q E := let ⟨_, e, q⟩ := h; by subst e; exact q
theorem me_c {d : D} (h : DE X W e (dC d)) : ME X W e (mC d) := de_mono h fun _ _ _ _ h => mC_cps h
theorem me_int {i j} : ME X W (.Constant (.int i) j pos) (mC (.int i)) := me_c de_int
theorem me_bl {b j} : ME X W (.Constant (.bool b) j pos) (mC (.bl b)) := me_c de_bl
theorem me_non {j} : ME X W (.Constant .none j pos) (mC .non) := me_c de_non
theorem me_str {x j} : ME X W (.Constant (.str x) j pos) (mC (.str x)) := me_c de_str
theorem me_gint {x : Str} {i : Int} {u : Tok} (hg : Gl X x) (hm : X.mg x = some (.int i u)) (hd : (x == ("__debug__" : Str)) = false := by decide) : ME X W (.Name x pos) (mC (.int i)) := me_c (de_gint hg hm hd)
theorem me_gstr {x : Str} {i : Str} {u : Tok} (hg : Gl X x) (hm : X.mg x = some (.str i u)) (hd : (x == ("__debug__" : Str)) = false := by decide) : ME X W (.Name x pos) (mC (.str i)) := me_c (de_gstr hg hm hd)
theorem me_ty {x : Str} {T : String} (hg : Gl X x) (hm : X.mg x = none) (hv : bootBuiltins x = some (.type T)) (hn : x ≠ "__name__" := by decide) (hd : (x == ("__debug__" : Str)) = false := by decide) : ME X W (.Name x pos) (mC (.ty T)) := me_c (de_ty hg hm hv hn hd)
theorem me_cls {x : Str} (hg : Gl X x) (hm : ∃ C, X.mg x = some (.ref C)) (hd : (x == ("__debug__" : Str)) = false := by decide) : ME X W (.Name x pos) (mC (.cls x)) := me_c (de_cls hg hm hd)
theorem me_dct0 : ME X W (.Dict [] [] pos) (mC (.dct [])) := me_c de_dct0
/-! two operands -/
abbrev O2 := D → D → Option D
def OpF (f : F2) (o : O2) : Prop := ∀ x y z (Q : D → Prop), o x y = some z → Q z → f x y Q
def mBin (o : O2) (ma mb : FE) : FE := fun ρ s => (ma ρ s).bind fun x s => (mb ρ s).bind fun y s => optO (o x y) s
theorem mBin_cps {f : F2} {o : O2} (ho : OpF f o) {ma mb : FE} {R : Res} {ρ : Env} {Q : DQ} {E : DX} (h : cps M (mBin o ma mb) R ρ Q E) : dBin f (cps M ma) (cps M mb) R ρ Q E := by
  obtain ⟨s, rfl, h⟩ := h
  refine cps_bind h fun x s1 h1 => cps_bind h1 fun y s2 h2 => ?_
  obtain ⟨z, e, q⟩ := post_opt h2
  exact ho x y z _ e q
def mTest (m : FE) : FB := fun ρ s => (m ρ s).bind fun d s => match d with
  | .bl b => .ok b s
  | _ => .err
theorem mTest_cps {m : FE} {t : DT} (ht : ∀ {R : Res} {ρ : Env} {Q : DQ} {E : DX}, cps M m R ρ Q E → t R ρ Q E) {R : Res} {ρ : Env} {Q : Res → Bool → Prop} {E : DX} (h : cps M (mTest m) R ρ Q E) : dTest t R ρ Q E := by
  obtain ⟨s, rfl, h⟩ := h
  refine ht (cps_bind h fun d s1 h1 => ?_)
  cases d with
  | bl b => exact ⟨b, rfl, h1⟩
  | _ => exact h1.elim
theorem me_bin {f : F2} {o : O2} (ho : OpF f o) {ma mb : FE} (h : DE X W e (dBin f (cps X.md ma) (cps X.md mb))) : ME X W e (mBin o ma mb) := de_mono h fun _ _ _ _ h => mBin_cps ho h
theorem mt_bin {f : F2} {o : O2} (ho : OpF f o) {ma mb : FE} (h : DTt X W e (dTest (dBin f (cps X.md ma) (cps X.md mb)))) : MT X W e (mTest (mBin o ma mb)) := dt_mono h fun _ _ _ _ h => mTest_cps (fun z => mBin_cps ho z) h
def oAdd' : O2
  | .int i, .int j => some (.int (i + j))
  | .str x, .str y => if x.length + y.length ≤ sizeLine then some (.str (x ++ y)) else none
  | .tup x, .tup y => if x.length + y.length ≤ sizeLine then some (.tup (x ++ y)) else none
  | .lst x, .lst y => if x.length + y.length ≤ sizeLine then some (.lst (x ++ y)) else none
  | _, _ => none
theorem if_some {α : Type} {p : Prop} [Decidable p] {x z : α} (h : (if p then some x else none) = some z) : p ∧ x = z := by
  split at h
  · rename_i hp; exact ⟨hp, Option.some.inj h⟩
  · cases h
theorem of_add : OpF fAdd oAdd' := by
  intro x y z Q h q
  unfold oAdd' at h
  split at h
  · cases h; exact q
  · obtain ⟨h1, rfl⟩ := if_some h; exact ⟨h1, q⟩
  · obtain ⟨h1, rfl⟩ := if_some h; exact ⟨h1, q⟩
  · obtain ⟨h1, rfl⟩ := if_some h; exact ⟨h1, q⟩
  · cases h
def oI (C : Int → Int → Prop) [∀ i j, Decidable (C i j)] (g : Int → Int → D) : O2
  | .int i, .int j => if C i j then some (g i j) else none
  | _, _ => none
theorem of_I {C : Int → Int → Prop} [∀ i j, Decidable (C i j)] {g : Int → Int → D} : OpF (fI C g) (oI C g) := by
  intro x y z Q h q
  unfold oI at h
  split at h
  · obtain ⟨h1, rfl⟩ := if_some h; exact ⟨h1, q⟩
  · cases h
end
end DL

set_option Elab.async false
set_option linter.all false
set_option maxRecDepth 100000
set_option maxHeartbeats 1000000
namespace DL
open PySem L2
variable {M : Md}
section
variable {X : Cx} {W : WX} {a b c e e2 tg : Expr} {es rest : List Expr} {ma mb mc m : FE} {mA mB mT mU : FB} {mr mr2 : FA} {pos : Pos}
instance (i j : Int) : Decidable (CDiv i j) := inferInstanceAs (Decidable (_ ∧ _))
instance (i j : Int) : Decidable (CPow i j) := inferInstanceAs (Decidable (_ ∧ _))
instance (i j : Int) : Decidable (CMul i j) := inferInstanceAs (Decidable (_ ∨ _))
instance (x : Str) (n : Int) : Decidable (PySem.MulOk x n) := inferInstanceAs (Decidable (_ ∧ _ ∧ _))
abbrev oSub : O2 := oI (fun _ _ => True) fun i j => .int (i - j)
abbrev oMod' : O2 := oI (fun _ j => 0 < j) fun i j => .int (i % j)
abbrev oDiv' : O2 := oI CDiv fun i j => .int (i / j)
abbrev oPow' : O2 := oI CPow fun i j => .int (i ^ j.toNat)
/-- small enough for a product (by sizes: a sum with a great literal would be unfolded) -/
def mulOk (i j : Int) : Bool := decide (i.natAbs < 2 ^ 64) || decide (j.natAbs < 2 ^ 64)
theorem mulOk_ok {i j : Int} (h : mulOk i j = true) : CMul i j := by
  rcases Bool.or_eq_true_iff.mp h with h | h
  · have := of_decide_eq_true h; exact .inl ⟨by omega, by omega⟩
  · have := of_decide_eq_true h; exact .inr ⟨by omega, by omega⟩
def oMul' : O2
  | .int i, .int j => if mulOk i j = true then some (.int (i * j)) else none
  | .str x, .int n => if PySem.MulOk x n then some (.str (Txt.mul x n)) else none
  | .tup ds, .int k => if ds ≠ [] ∧ 2 ≤ k ∧ k ≤ 1000 ∧ ds.length ≤ 1000 then some (.tup (List.replicate k.toNat ds).flatten) else none
  | _, _ => none
theorem of_mul : OpF fMul oMul' := by
  intro x y z Q h q
  unfold oMul' at h
  split at h
  · obtain ⟨h1, rfl⟩ := if_some h; exact ⟨mulOk_ok h1, q⟩
  · obtain ⟨h1, rfl⟩ := if_some h; exact ⟨h1, q⟩
  · obtain ⟨⟨h1, h2, h3, h4⟩, rfl⟩ := if_some h; exact ⟨h1, h2, h3, h4, q⟩
  · cases h
theorem me_add (ha : ME X W a ma) (hb : ME X W b mb) : ME X W (.BinOp a .Add b pos) (mBin oAdd' ma mb) := me_bin of_add (de_add ha hb)
theorem me_sub (ha : ME X W a ma) (hb : ME X W b mb) : ME X W (.BinOp a .Sub b pos) (mBin oSub ma mb) := me_bin of_I (de_sub ha hb)
theorem me_mod (ha : ME X W a ma) (hb : ME X W b mb) : ME X W (.BinOp a .Mod b pos) (mBin oMod' ma mb) := me_bin of_I (de_mod ha hb)
theorem me_div (ha : ME X W a ma) (hb : ME X W b mb) : ME X W (.BinOp a .FloorDiv b pos) (mBin oDiv' ma mb) := me_bin of_I (de_div ha hb)
theorem me_pow (ha : ME X W a ma) (hb : ME X W b mb) : ME X W (.BinOp a .Pow b pos) (mBin oPow' ma mb) := me_bin of_I (de_pow ha hb)
theorem me_mul (ha : ME X W a ma) (hb : ME X W b mb) : ME X W (.BinOp a .Mult b pos) (mBin oMul' ma mb) := me_bin of_mul (de_mul ha hb)
/-! comparisons -/
def oOrd (p : Int → Int → Bool) (q : List Nat → List Nat → Bool) : O2
  | .int i, .int j => some (.bl (p i j))
  | .str x, .str y => some (.bl (q x.cps.toList y.cps.toList))
  | _, _ => none
theorem of_ord {p : Int → Int → Bool} {q : List Nat → List Nat → Bool} : OpF (fOrd p q) (oOrd p q) := by
  intro x y z Q h k
  unfold oOrd at h
  split at h
  · cases h; exact k
  · cases h; exact k
  · cases h
abbrev oLe' : O2 := oOrd (fun i j => decide (i ≤ j)) (fun x y => !decide (y < x))
abbrev oGt' : O2 := oOrd (fun i j => decide (j < i)) (fun x y => decide (y < x))
abbrev oGe' : O2 := oOrd (fun i j => decide (j ≤ i)) (fun x y => !decide (x < y))
def oLt' : O2
  | .int i, .int j => some (.bl (decide (i < j)))
  | .str x, .str y => some (.bl (decide (x.cps.toList < y.cps.toList)))
  | .tup x, .tup y => if D.pure (.tup x) = true ∧ D.pure (.tup y) = true ∧ PySem.W.alike (D.py (.tup x)) (D.py (.tup y)) = true ∧ (D.py (.tup x)).depth ≤ 64 then some (.bl (PySem.W.dataLt (D.py (.tup x)) (D.py (.tup y)))) else none
  | _, _ => none
theorem of_lt : OpF fLtD oLt' := by
  intro x y z Q h k
  unfold oLt' at h
  split at h
  · cases h; exact k
  · cases h; exact k
  · obtain ⟨⟨h1, h2, h3, h4⟩, rfl⟩ := if_some h; exact ⟨h1, h2, h3, h4, k⟩
  · cases h
theorem de_ltD (hu : X.A.units + 100 < cLine) {ta tb : DT} (ha : DE X W a ta) (hb : DE X W b tb) : DE X W (.Compare a [.Lt] [b] pos) (dBin fLtD ta tb) := de_cmp (opLtD hu) rOf_ok ha hb (nomark _)
theorem dt_ltD (hu : X.A.units + 100 < cLine) {ta tb : DT} (ha : DE X W a ta) (hb : DE X W b tb) : DTt X W (.Compare a [.Lt] [b] pos) (dTest (dBin fLtD ta tb)) := dt_cmp (opLtD hu) rOf_ok ha hb (nomark _)
theorem me_lt (hu : X.A.units + 100 < cLine) (ha : ME X W a ma) (hb : ME X W b mb) : ME X W (.Compare a [.Lt] [b] pos) (mBin oLt' ma mb) := me_bin of_lt (de_ltD hu ha hb)
theorem mt_lt (hu : X.A.units + 100 < cLine) (ha : ME X W a ma) (hb : ME X W b mb) : MT X W (.Compare a [.Lt] [b] pos) (mTest (mBin oLt' ma mb)) := mt_bin of_lt (dt_ltD hu ha hb)
theorem me_le (ha : ME X W a ma) (hb : ME X W b mb) : ME X W (.Compare a [.LtE] [b] pos) (mBin oLe' ma mb) := me_bin of_ord (de_le ha hb)
theorem me_gt (ha : ME X W a ma) (hb : ME X W b mb) : ME X W (.Compare a [.Gt] [b] pos) (mBin oGt' ma mb) := me_bin of_ord (de_gt ha hb)
theorem me_ge (ha : ME X W a ma) (hb : ME X W b mb) : ME X W (.Compare a [.GtE] [b] pos) (mBin oGe' ma mb) := me_bin of_ord (de_ge ha hb)
theorem mt_le (ha : ME X W a ma) (hb : ME X W b mb) : MT X W (.Compare a [.LtE] [b] pos) (mTest (mBin oLe' ma mb)) := mt_bin of_ord (dt_le ha hb)
theorem mt_gt (ha : ME X W a ma) (hb : ME X W b mb) : MT X W (.Compare a [.Gt] [b] pos) (mTest (mBin oGt' ma mb)) := mt_bin of_ord (dt_gt ha hb)
theorem mt_ge (ha : ME X W a ma) (hb : ME X W b mb) : MT X W (.Compare a [.GtE] [b] pos) (mTest (mBin oGe' ma mb)) := mt_bin of_ord (dt_ge ha hb)
def oEqB (neg : Bool) : O2
  | .tup x, .tup [] => some (.bl (x.isEmpty != neg))
  | .lst x, .lst [] => some (.bl (x.isEmpty != neg))
  | x, y => if x.fit = true ∧ y.fit = true then some (.bl (x.eqv y != neg)) else none
theorem of_eqB {neg : Bool} : OpF (fEqB neg) (oEqB neg) := by
  intro x y z Q h k
  unfold oEqB at h
  split at h
  · cases h; exact k
  · cases h; exact k
  · rename_i h1 h2
    obtain ⟨⟨h3, h4⟩, rfl⟩ := if_some h
    unfold fEqB
    split
    · exact (h1 _ rfl rfl).elim
    · exact (h2 _ rfl rfl).elim
    · exact ⟨h3, h4, k⟩
abbrev oEq' : O2 := oEqB false
abbrev oNe' : O2 := oEqB true
theorem me_eq (hu : X.A.units + 100 < cLine) (ha : ME X W a ma) (hb : ME X W b mb) : ME X W (.Compare a [.Eq] [b] pos) (mBin oEq' ma mb) := me_bin of_eqB (de_eq hu ha hb)
theorem me_ne (hu : X.A.units + 100 < cLine) (ha : ME X W a ma) (hb : ME X W b mb) : ME X W (.Compare a [.NotEq] [b] pos) (mBin oNe' ma mb) := me_bin of_eqB (de_ne hu ha hb)
theorem mt_eq (hu : X.A.units + 100 < cLine) (ha : ME X W a ma) (hb : ME X W b mb) : MT X W (.Compare a [.Eq] [b] pos) (mTest (mBin oEq' ma mb)) := mt_bin of_eqB (dt_eq hu ha hb)
theorem mt_ne (hu : X.A.units + 100 < cLine) (ha : ME X W a ma) (hb : ME X W b mb) : MT X W (.Compare a [.NotEq] [b] pos) (mTest (mBin oNe' ma mb)) := mt_bin of_eqB (dt_ne hu ha hb)
def oInB (neg : Bool) : O2
  | .str x, .str z => match x.cps.toList with
    | [c] => some (.bl (decide (c ∈ z.cps.toList) != neg))
    | _ => none
  | x, .tup ys => if (ys.all fun y => eqOk y x) = true then some (.bl ((ys.any fun y => y.eqv x) != neg)) else none
  | x, .lst ys => if (ys.all fun y => eqOk y x) = true then some (.bl ((ys.any fun y => y.eqv x) != neg)) else none
  | _, _ => none
theorem str_one {x : Str} {c : Nat} (h : x.cps.toList = [c]) : x = ⟨#[c]⟩ := PySem.W.str_of_cps (by rw [h])
theorem of_inB {neg : Bool} : OpF (fInB neg) (oInB neg) := by
  intro x y z Q h k
  unfold oInB at h
  split at h
  · split at h
    · rename_i x z c hc
      cases h
      exact ⟨c, str_one hc, k⟩
    · cases h
  · obtain ⟨h3, rfl⟩ := if_some h
    cases x <;> exact ⟨fun y m => List.all_eq_true.mp h3 y m, k⟩
  · obtain ⟨h3, rfl⟩ := if_some h
    cases x <;> exact ⟨fun y m => List.all_eq_true.mp h3 y m, k⟩
  · cases h
abbrev oIn' : O2 := oInB false
abbrev oNin' : O2 := oInB true
theorem me_in (hu : X.A.units + 100 < cLine) (ha : ME X W a ma) (hb : ME X W b mb) (hm : behindInMarks .In b = false := by rfl) : ME X W (.Compare a [.In] [b] pos) (mBin oIn' ma mb) := me_bin of_inB (de_in hu ha hb hm)
theorem me_nin (hu : X.A.units + 100 < cLine) (ha : ME X W a ma) (hb : ME X W b mb) (hm : behindInMarks .NotIn b = false := by rfl) : ME X W (.Compare a [.NotIn] [b] pos) (mBin oNin' ma mb) := me_bin of_inB (de_nin hu ha hb hm)
theorem mt_in (hu : X.A.units + 100 < cLine) (ha : ME X W a ma) (hb : ME X W b mb) (hm : behindInMarks .In b = false := by rfl) : MT X W (.Compare a [.In] [b] pos) (mTest (mBin oIn' ma mb)) := mt_bin of_inB (dt_in hu ha hb hm)
theorem mt_nin (hu : X.A.units + 100 < cLine) (ha : ME X W a ma) (hb : ME X W b mb) (hm : behindInMarks .NotIn b = false := by rfl) : MT X W (.Compare a [.NotIn] [b] pos) (mTest (mBin oNin' ma mb)) := mt_bin of_inB (dt_nin hu ha hb hm)
def oIx' : O2
  | .lst ds, .int i => atI ds i
  | .tup ds, .int i => atI ds i
  | .str x, .int i => if x.length ≤ sizeLine then (atI x.cps.toList i).map fun c => .str ⟨#[c]⟩ else none
  | _, _ => none
theorem of_ix : OpF fIx oIx' := by
  intro x y z Q h k
  unfold oIx' at h
  split at h
  · exact ⟨z, h, k⟩
  · exact ⟨z, h, k⟩
  · split at h
    · rename_i hx
      obtain ⟨c, hc, rfl⟩ := Option.map_eq_some_iff.mp h
      exact ⟨hx, c, hc, k⟩
    · cases h
  · cases h
theorem me_ix (ha : ME X W a ma) (hb : ME X W b mb) (hs : PlainIx b := by exact fun _ _ => rfl) : ME X W (.Subscript a b pos) (mBin oIx' ma mb) := me_bin of_ix (de_ix ha hb hs)
/-! one operand -/
abbrev O1 := D → Option D
def mUn (o : O1) (m : FE) : FE := fun ρ s => (m ρ s).bind fun d s => optO (o d) s
def oNeg : O1
  | .int i => some (.int (-i))
  | _ => none
theorem me_neg (ha : ME X W a ma) : ME X W (.UnaryOp .USub a pos) (mUn oNeg ma) := de_mono (de_neg ha) fun R ρ Q E ⟨s, hs, h⟩ => by
  subst hs
  refine cps_bind h fun x s1 h1 => ?_
  obtain ⟨z, hz, q⟩ := post_opt h1
  unfold oNeg at hz
  split at hz
  · cases hz; exact q
  · cases hz
def oRev : O1
  | .tup ds => some (.tup ds.reverse)
  | _ => none
theorem me_rev {k : Nat} {p1 p2 p3 : Pos} (ha : ME X W e m) : ME X W (.Subscript e (.Slice none none (some (.UnaryOp .USub (.Constant (.int 1) k p1) p2)) p3) pos) (mUn oRev m) := de_mono (de_rev ha) fun R ρ Q E ⟨s, hs, h⟩ => by
  subst hs
  refine cps_bind h fun x s1 h1 => ?_
  obtain ⟨z, hz, q⟩ := post_opt h1
  unfold oRev at hz
  split at hz
  · cases hz; exact ⟨_, rfl, q⟩
  · cases hz
/-! tests -/
theorem mt_val (h : ME X W e m) (he : ∀ whole, isTrue e X.env whole = (do let v ← whole; standAt e.pos; holding [v] (truthy v)) := by intro _; rfl) : MT X W e (mTest m) := dt_mono (dt_val h he) fun _ _ _ _ h => mTest_cps (fun z => z) h
def mNot (m : FB) : FB := fun ρ s => (m ρ s).bind fun b s => .ok (!b) s
def mAnd (m u : FB) : FB := fun ρ s => (m ρ s).bind fun b s => if b = true then u ρ s else .ok false s
def mOr (m u : FB) : FB := fun ρ s => (m ρ s).bind fun b s => if b = true then .ok true s else u ρ s
theorem mt_not (ha : MT X W a mA) : MT X W (.UnaryOp .Not a pos) (mNot mA) := dt_mono (dt_not ha) fun R ρ Q E ⟨s, hs, h⟩ => by
  subst hs; exact cps_bind h fun x s1 h1 => h1
theorem mw_and1 (ha : MT X W a mA) : MW X W (.BoolOp .And [a] pos) mA := dw_and1 ha
theorem mw_or1 (ha : MT X W a mA) : MW X W (.BoolOp .Or [a] pos) mA := dw_or1 ha
theorem mw_and (ha : MT X W a mA) (hb : MW X W (.BoolOp .And (b :: rest) pos) mB) : MW X W (.BoolOp .And (a :: b :: rest) pos) (mAnd mA mB) := dw_mono (dw_and ha hb) fun R ρ Q E ⟨s, hs, h⟩ => by
  subst hs
  refine cps_bind h fun x s1 h1 => ?_
  cases x with
  | true => exact ⟨s1, rfl, h1⟩
  | false => exact h1
theorem mw_or (ha : MT X W a mA) (hb : MW X W (.BoolOp .Or (b :: rest) pos) mB) : MW X W (.BoolOp .Or (a :: b :: rest) pos) (mOr mA mB) := dw_mono (dw_or ha hb) fun R ρ Q E ⟨s, hs, h⟩ => by
  subst hs
  refine cps_bind h fun x s1 h1 => ?_
  cases x with
  | false => exact ⟨s1, rfl, h1⟩
  | true => exact h1
theorem mt_w (h : MW X W e mA) : MT X W e mA := dt_w h
def asBl (d : D) : Option Bool := match d with
  | .bl b => some b
  | _ => none
theorem asBl_eq {d : D} {b : Bool} (h : asBl d = some b) : d = .bl b := by cases d <;> first | (cases h; done) | (cases h; rfl)
def mAndV (ma mb : FE) : FE := fun ρ s => (ma ρ s).bind fun d s => match d with
  | .bl true => mb ρ s
  | .bl false => .ok (.bl false) s
  | _ => .err
def mOrV (ma mb : FE) : FE := fun ρ s => (ma ρ s).bind fun d s => match d with
  | .bl true => .ok (.bl true) s
  | .bl false => mb ρ s
  | _ => .err
def mNotV (ma : FE) : FE := fun ρ s => (ma ρ s).bind fun d s => match d with
  | .bl b => .ok (.bl (!b)) s
  | _ => .err
theorem me_one {op} (h : ME X W a m) : ME X W (.BoolOp op [a] pos) m := de_one h
theorem me_and (ha : ME X W a ma) (hb : ME X W (.BoolOp .And (b :: rest) pos) mb) : ME X W (.BoolOp .And (a :: b :: rest) pos) (mAndV ma mb) := de_mono (de_and ha hb) fun R ρ Q E ⟨s, hs, h⟩ => by
  subst hs
  refine cps_bind h fun x s1 h1 => ?_
  cases x with
  | bl b => cases b with
    | true => exact ⟨true, rfl, s1, rfl, h1⟩
    | false => exact ⟨false, rfl, h1⟩
  | _ => exact h1.elim
theorem me_or (ha : ME X W a ma) (hb : ME X W (.BoolOp .Or (b :: rest) pos) mb) : ME X W (.BoolOp .Or (a :: b :: rest) pos) (mOrV ma mb) := de_mono (de_or ha hb) fun R ρ Q E ⟨s, hs, h⟩ => by
  subst hs
  refine cps_bind h fun x s1 h1 => ?_
  cases x with
  | bl b => cases b with
    | false => exact ⟨false, rfl, s1, rfl, h1⟩
    | true => exact ⟨true, rfl, h1⟩
  | _ => exact h1.elim
theorem me_not (ha : ME X W a ma) : ME X W (.UnaryOp .Not a pos) (mNotV ma) := de_mono (de_not ha) fun R ρ Q E ⟨s, hs, h⟩ => by
  subst hs
  refine cps_bind h fun x s1 h1 => ?_
  cases x with
  | bl b => exact ⟨b, rfl, h1⟩
  | _ => exact h1.elim
def mIf (mt : FB) (ma mb : FE) : FE := fun ρ s => (mt ρ s).bind fun b s => if b = true then ma ρ s else mb ρ s
theorem me_if (hc : MT X W c mA) (ha : ME X W a ma) (hb : ME X W b mb) : ME X W (.IfExp c a b pos) (mIf mA ma mb) := de_mono (de_if hc ha hb) fun R ρ Q E ⟨s, hs, h⟩ => by
  subst hs
  refine cps_bind h fun x s1 h1 => ?_
  cases x with
  | false => exact ⟨s1, rfl, h1⟩
  | true => exact ⟨s1, rfl, h1⟩
def mChain (o p : O2) (ma mb mc : FE) : FE := fun ρ s => (ma ρ s).bind fun x s => (mb ρ s).bind fun y s => match o x y with
  | some (.bl true) => (mc ρ s).bind fun u s => optO (p y u) s
  | some (.bl false) => .ok (.bl false) s
  | _ => .err
theorem mChain_cps {f g : F2} {o p : O2} (ho : OpF f o) (hp : OpF g p) {R : Res} {ρ : Env} {Q : DQ} {E : DX} (h : cps M (mChain o p ma mb mc) R ρ Q E) : dChain f g (cps M ma) (cps M mb) (cps M mc) R ρ Q E := by
  obtain ⟨s, rfl, h⟩ := h
  refine cps_bind h fun x s1 h1 => cps_bind h1 fun y s2 h2 => ?_
  cases q : o x y with
  | none => simp only [q] at h2; exact h2.elim
  | some z =>
    refine ho x y z _ q ?_
    simp only [q] at h2
    cases z with
    | bl b => cases b with
      | true =>
        refine ⟨true, rfl, ?_⟩
        rw [if_pos rfl]
        refine cps_bind h2 fun u s3 h3 => ?_
        obtain ⟨v, hv, q3⟩ := post_opt h3
        exact hp _ _ _ _ hv q3
      | false => exact ⟨false, rfl, h2⟩
    | _ => exact h2.elim
theorem me_leLe (ha : ME X W a ma) (hb : ME X W b mb) (hc : ME X W c mc) (hm : lastMarks [.LtE, .LtE] [b, c] = false := by with_unfolding_all rfl) : ME X W (.Compare a [.LtE, .LtE] [b, c] pos) (mChain oLe' oLe' ma mb mc) := de_mono (de_leLe ha hb hc hm) fun _ _ _ _ h => mChain_cps of_ord of_ord h
abbrev oLt0 : O2 := oOrd (fun i j => decide (i < j)) (fun x y => decide (x < y))
theorem me_leLt (ha : ME X W a ma) (hb : ME X W b mb) (hc : ME X W c mc) (hm : lastMarks [.LtE, .Lt] [b, c] = false := by with_unfolding_all rfl) : ME X W (.Compare a [.LtE, .Lt] [b, c] pos) (mChain oLe' oLt0 ma mb mc) := de_mono (de_leLt ha hb hc hm) fun _ _ _ _ h => mChain_cps of_ord of_ord h
theorem mt_leLe (ha : ME X W a ma) (hb : ME X W b mb) (hc : ME X W c mc) (hm : lastMarks [.LtE, .LtE] [b, c] = false := by with_unfolding_all rfl) : MT X W (.Compare a [.LtE, .LtE] [b, c] pos) (mTest (mChain oLe' oLe' ma mb mc)) := dt_mono (dt_leLe ha hb hc hm) fun _ _ _ _ h => mTest_cps (fun z => mChain_cps of_ord of_ord z) h
theorem mt_leLt (ha : ME X W a ma) (hb : ME X W b mb) (hc : ME X W c mc) (hm : lastMarks [.LtE, .Lt] [b, c] = false := by with_unfolding_all rfl) : MT X W (.Compare a [.LtE, .Lt] [b, c] pos) (mTest (mChain oLe' oLt0 ma mb mc)) := dt_mono (dt_leLt ha hb hc hm) fun _ _ _ _ h => mTest_cps (fun z => mChain_cps of_ord of_ord z) h
/-! arguments, displays -/
def mNil : FA := fun _ s => .ok [] s
def mCons (m : FE) (mr : FA) : FA := fun ρ s => (m ρ s).bind fun x s => (mr ρ s).bind fun xs s => .ok (x :: xs) s
def mStar (m : FE) (mr : FA) : FA := fun ρ s => (m ρ s).bind fun x s => (optO (seqD x) s).bind fun ys s => (mr ρ s).bind fun xs s => .ok (ys ++ xs) s
theorem ma_nil : MA X W [] mNil := da_mono da_nil fun R ρ Q E ⟨s, hs, h⟩ => by subst hs; exact h
theorem ma_cons (ha : ME X W e m) (hr : MA X W es mr) (hs : starEach (e :: es) X.env = (false, eval e X.env) :: starEach es X.env := by rfl) : MA X W (e :: es) (mCons m mr) := da_mono (da_cons ha hr hs) fun R ρ Q E ⟨s, hs, h⟩ => by
  subst hs
  exact cps_bind h fun x s1 h1 => cps_bind h1 fun y s2 h2 => h2
theorem ma_star {p : Pos} (ha : ME X W e m) (hr : MA X W es mr) (hs : starEach (.Starred e p :: es) X.env = (true, eval e X.env) :: starEach es X.env := by rfl) : MA X W (.Starred e p :: es) (mStar m mr) := da_mono (da_star ha hr hs) fun R ρ Q E ⟨s, hs, h⟩ => by
  subst hs
  refine cps_bind h fun x s1 h1 => ?_
  obtain ⟨ys, e, q⟩ := post_opt ((Out.post_bind _).mp h1)
  exact ⟨ys, e, cps_bind q fun y s2 h2 => h2⟩
def sized (c : List D → D) (xs : List D) : Option D := if xs.length ≤ sizeLine then some (c xs) else none
def mSeq (c : List D → D) (mr : FA) : FE := fun ρ s => (mr ρ s).bind fun xs s => optO (sized c xs) s
abbrev mTup (mr : FA) : FE := mSeq .tup mr
abbrev mLst (mr : FA) : FE := mSeq .lst mr
theorem me_tup {k} (h : MA X W es mr) : ME X W (.Tuple es k pos) (mTup mr) := de_mono (de_tup h) fun R ρ Q E ⟨s, hs, h⟩ => by
  subst hs
  refine cps_bind h fun x s1 h1 => ?_
  obtain ⟨z, e, q⟩ := post_opt h1
  obtain ⟨h2, rfl⟩ := if_some e
  exact ⟨h2, q⟩
theorem me_lst (h : MA X W es mr) : ME X W (.List es pos) (mLst mr) := de_mono (de_lst h) fun R ρ Q E ⟨s, hs, h⟩ => by
  subst hs
  refine cps_bind h fun x s1 h1 => ?_
  obtain ⟨z, e, q⟩ := post_opt h1
  obtain ⟨h2, rfl⟩ := if_some e
  exact ⟨h2, q⟩
/-! calls of built-ins -/
abbrev OC := List D → Option D
def CallF (f : FC) (o : OC) : Prop := ∀ xs z (Q : D → Prop), o xs = some z → Q z → f xs Q
def mCB (o : OC) (mr : FA) : FE := fun ρ s => (mr ρ s).bind fun xs s => optO (o xs) s
theorem mCB_cps {f : FC} {o : OC} (ho : CallF f o) {R : Res} {ρ : Env} {Q : DQ} {E : DX} (h : cps M (mCB o mr) R ρ Q E) : dCB f (cps M mr) R ρ Q E := by
  obtain ⟨s, rfl, h⟩ := h
  refine cps_bind h fun x s1 h1 => ?_
  obtain ⟨z, e, q⟩ := post_opt h1
  exact ho _ _ _ e q
theorem me_cb {f : FC} {o : OC} (ho : CallF f o) (h : DE X W e (dCB f (cps X.md mr))) : ME X W e (mCB o mr) := de_mono h fun _ _ _ _ h => mCB_cps ho h
def oLen : OC
  | [.str x] => if x.length ≤ sizeLine then some (.int x.length) else none
  | [.tup ds] => some (.int ds.length)
  | [.lst ds] => some (.int ds.length)
  | [.frl ds] => some (.int ds.length)
  | _ => none
theorem cf_len : CallF fLen oLen := by
  intro xs z Q h q
  unfold oLen at h
  split at h
  · obtain ⟨h1, rfl⟩ := if_some h; exact ⟨h1, q⟩
  · cases h; exact q
  · cases h; exact q
  · cases h; exact q
  · cases h
theorem me_len {p : Pos} (hg : Gl X "len") (hm : X.mg "len" = none) (ha : MA X W [e] mr) (he : starEach [e] X.env = (false, eval e X.env) :: starEach [] X.env := by rfl) : ME X W (.Call (.Name "len" p) [e] [] pos) (mCB oLen mr) := me_cb cf_len (de_len hg hm ha he)
def oIsi : OC
  | [d, .ty T] => match tyD d with
    | some t => if L2.kitB t T = some (isiB t T) then some (.bl (isiB t T)) else none
    | none => none
  | _ => none
theorem cf_isi : CallF fIsi oIsi := by
  intro xs z Q h q
  unfold oIsi at h
  split at h
  · split at h
    · rename_i t ht
      obtain ⟨h1, rfl⟩ := if_some h; exact ⟨t, ht, h1, q⟩
    · cases h
  · cases h
theorem me_isi {p : Pos} {e2 : Expr} (hg : Gl X "isinstance") (hm : X.mg "isinstance" = none) (ha : MA X W [e, e2] mr) (he : starEach [e, e2] X.env = (false, eval e X.env) :: starEach [e2] X.env := by rfl) (hpl : (backTo pos (starEach [e2] X.env)).any (·.1) = false := by rfl) : ME X W (.Call (.Name "isinstance" p) [e, e2] [] pos) (mCB oIsi mr) := me_cb cf_isi (de_isi hg hm ha he hpl)
def oAll : OC
  | [.lst ds] => (D.bls ds).map fun bs => .bl (bs.all id)
  | _ => none
theorem cf_all : CallF fAll oAll := by
  intro xs z Q h q
  unfold oAll at h
  split at h
  · obtain ⟨bs, e, rfl⟩ := Option.map_eq_some_iff.mp h
    exact ⟨bs, e, q⟩
  · cases h
theorem me_all {p : Pos} (hc : X.calm = true) (hg : Gl X "all") (hm : X.mg "all" = none) (ha : MA X W [e] mr) (he : starEach [e] X.env = (false, eval e X.env) :: starEach [] X.env := by rfl) : ME X W (.Call (.Name "all" p) [e] [] pos) (mCB oAll mr) := me_cb cf_all (de_all hc hg hm ha he)
def oAny : OC
  | [.lst ds] => (D.bls ds).map fun bs => .bl (bs.any id)
  | _ => none
theorem cf_any : CallF fAny oAny := by
  intro xs z Q h q
  unfold oAny at h
  split at h
  · obtain ⟨bs, e, rfl⟩ := Option.map_eq_some_iff.mp h
    exact ⟨bs, e, q⟩
  · cases h
theorem me_any {p : Pos} (hc : X.calm = true) (hg : Gl X "any") (hm : X.mg "any" = none) (ha : MA X W [e] mr) (he : starEach [e] X.env = (false, eval e X.env) :: starEach [] X.env := by rfl) : ME X W (.Call (.Name "any" p) [e] [] pos) (mCB oAny mr) := me_cb cf_any (de_any hc hg hm ha he)
def oInt1 : OC
  | [.int i] => some (.int i)
  | [.bl b] => some (.int (if b then 1 else 0))
  | _ => none
theorem cf_int1 : CallF fInt oInt1 := by
  intro xs z Q h q
  unfold oInt1 at h
  split at h
  · cases h; exact q
  · cases h; exact q
  · cases h
theorem me_int1 {p : Pos} (hg : Gl X "int") (hm : X.mg "int" = none) (ha : MA X W [e] mr) (he : starEach [e] X.env = (false, eval e X.env) :: starEach [] X.env := by rfl) : ME X W (.Call (.Name "int" p) [e] [] pos) (mCB oInt1 mr) := me_cb cf_int1 (de_int1 hg hm ha he)
def oMin2 : OC
  | [.int i, .int j] => some (.int (if j < i then j else i))
  | _ => none
theorem cf_min2 : CallF fMin2 oMin2 := by
  intro xs z Q h q
  unfold oMin2 at h
  split at h
  · cases h; exact q
  · cases h
theorem me_min2 {p : Pos} {e2 : Expr} (hc : X.calm = true) (hg : Gl X "min") (hm : X.mg "min" = none) (ha : MA X W [e, e2] mr) (he : starEach [e, e2] X.env = (false, eval e X.env) :: starEach [e2] X.env := by rfl) (hpl : (backTo pos (starEach [e2] X.env)).any (·.1) = false := by rfl) : ME X W (.Call (.Name "min" p) [e, e2] [] pos) (mCB oMin2 mr) := me_cb cf_min2 (de_min2 hc hg hm ha he hpl)
def oTuple : OC
  | [.lst ds] => some (.tup ds)
  | [.tup ds] => some (.tup ds)
  | _ => none
theorem cf_tuple : CallF fTuple oTuple := by
  intro xs z Q h q
  unfold oTuple at h
  split at h
  · cases h; exact q
  · cases h; exact q
  · cases h
theorem me_tuple {p : Pos} (hg : Gl X "tuple") (hm : X.mg "tuple" = none) (ha : MA X W [e] mr) (he : starEach [e] X.env = (false, eval e X.env) :: starEach [] X.env := by rfl) : ME X W (.Call (.Name "tuple" p) [e] [] pos) (mCB oTuple mr) := me_cb cf_tuple (de_tuple hg hm ha he)
def oList : OC
  | [.lst ds] => some (.lst ds)
  | [.tup ds] => some (.lst ds)
  | [.frl ds] => some (.lst ds)
  | _ => none
theorem cf_list : CallF fList oList := by
  intro xs z Q h q
  unfold oList at h
  split at h
  · cases h; exact q
  · cases h; exact q
  · cases h; exact q
  · cases h
theorem me_list {p : Pos} (hg : Gl X "list") (hm : X.mg "list" = none) (ha : MA X W [e] mr) (he : starEach [e] X.env = (false, eval e X.env) :: starEach [] X.env := by rfl) : ME X W (.Call (.Name "list" p) [e] [] pos) (mCB oList mr) := me_cb cf_list (de_list hg hm ha he)
def oRepr : OC
  | [d] => if d.rp = true ∧ d.py.depth ≤ 64 ∧ d.py.shown.length ≤ sizeLine then some (.str d.py.shown) else none
  | _ => none
theorem cf_repr : CallF fRepr oRepr := by
  intro xs z Q h q
  unfold oRepr at h
  split at h
  · obtain ⟨⟨h1, h2, h3⟩, rfl⟩ := if_some h; exact ⟨h1, h2, h3, q⟩
  · cases h
theorem me_repr {p : Pos} (hgd : X.A.guards = some []) (hu : X.A.units + 100 < cLine) (hg : Gl X "repr") (hm : X.mg "repr" = none) (ha : MA X W [e] mr) (he : starEach [e] X.env = (false, eval e X.env) :: starEach [] X.env := by rfl) : ME X W (.Call (.Name "repr" p) [e] [] pos) (mCB oRepr mr) := me_cb cf_repr (de_repr hgd hu hg hm ha he)
def sortable1 : PyData → Bool
  | .tuple (_ :: _) => true
  | _ => false
def sortable2 : PyData → Bool
  | .tuple _ => false
  | .none => false
  | _ => true
def sortOk (ds : List D) : Bool := (ds.all fun d => d.pure && decide (d.py.depth ≤ 64)) && ((ds.all fun d => ds.all fun d' => PySem.W.alike d.py d'.py) && ((ds.all fun d => sortable1 d.py) || ds.all fun d => sortable2 d.py))
theorem sortOk_ok {ds : List D} (h : sortOk ds = true) : (∀ d ∈ ds, d.pure = true ∧ d.py.depth ≤ 64) ∧ PySem.W.AllAlike (ds.map D.py) ∧ PySem.W.Sortable (ds.map D.py) := by
  unfold sortOk at h
  obtain ⟨h1, h⟩ := Bool.and_eq_true_iff.mp h
  obtain ⟨h2, h3⟩ := Bool.and_eq_true_iff.mp h
  refine ⟨fun d m => ?_, fun d m d' m' => ?_, ?_⟩
  · have := List.all_eq_true.mp h1 d m
    obtain ⟨z1, z2⟩ := Bool.and_eq_true_iff.mp this
    exact ⟨z1, of_decide_eq_true z2⟩
  · obtain ⟨x, mx, rfl⟩ := List.mem_map.mp m
    obtain ⟨y, my, rfl⟩ := List.mem_map.mp m'
    exact List.all_eq_true.mp (List.all_eq_true.mp h2 x mx) y my
  · rcases Bool.or_eq_true_iff.mp h3 with h3 | h3
    · refine .inl fun d m => ?_
      obtain ⟨x, mx, rfl⟩ := List.mem_map.mp m
      have := List.all_eq_true.mp h3 x mx
      unfold sortable1 at this
      split at this
      · rename_i a r e; exact ⟨a, r, e⟩
      · cases this
    · refine .inr fun d m => ?_
      obtain ⟨x, mx, rfl⟩ := List.mem_map.mp m
      have := List.all_eq_true.mp h3 x mx
      unfold sortable2 at this
      split at this
      · cases this
      · cases this
      · rename_i z1 z2; exact ⟨fun q => z2 q, fun xs q => z1 xs q⟩
def oSorted : OC
  | [.lst ds] => if sortOk ds = true then some (.lst (sortD ds)) else none
  | _ => none
theorem cf_sorted : CallF fSorted oSorted := by
  intro xs z Q h q
  unfold oSorted at h
  split at h
  · obtain ⟨h1, rfl⟩ := if_some h
    obtain ⟨z1, z2, z3⟩ := sortOk_ok h1
    exact ⟨z1, z2, z3, q⟩
  · cases h
theorem me_sorted {p : Pos} (hu : X.A.units + 100 < cLine) (hg : Gl X "sorted") (hm : X.mg "sorted" = none) (ha : MA X W [e] mr) (he : starEach [e] X.env = (false, eval e X.env) :: starEach [] X.env := by rfl) : ME X W (.Call (.Name "sorted" p) [e] [] pos) (mCB oSorted mr) := me_cb cf_sorted (de_sorted hu hg hm ha he)
/-! slices -/
def mNoPart : FO := fun _ s => .ok none s
def mPart (m : FE) : FO := fun ρ s => (m ρ s).bind fun d s => match d with
  | .int i => .ok (some i) s
  | _ => .err
theorem mo_none : MO X W none mNoPart := dpo_mono dpo_none fun R ρ Q E ⟨s, hs, h⟩ => by subst hs; exact h
theorem mo_some (h : ME X W e m) : MO X W (some e) (mPart m) := dpo_mono (dpo_some h) fun R ρ Q E ⟨s, hs, h⟩ => by
  subst hs
  refine cps_bind h fun x s1 h1 => ?_
  cases x with
  | int i => exact ⟨i, rfl, h1⟩
  | _ => exact h1.elim
def oCut (d : D) (lo hi : Option Int) : Option D := match d with
  | .lst ds => some (.lst (cutD ds lo hi))
  | .tup ds => some (.tup (cutD ds lo hi))
  | .str x => if x.length ≤ sizeLine then some (.str (cutS x lo hi)) else none
  | _ => none
def mSl (m : FE) (ml mh : FO) : FE := fun ρ s => (m ρ s).bind fun d s => (ml ρ s).bind fun lo s => (mh ρ s).bind fun hi s => optO (oCut d lo hi) s
theorem me_slice {lo hi : Option Expr} {ml mh : FO} {p2 : Pos} (he : ME X W e m) (hl : MO X W lo ml) (hu : MO X W hi mh) : ME X W (.Subscript e (.Slice lo hi none p2) pos) (mSl m ml mh) := de_mono (de_slice he hl hu) fun R ρ Q E ⟨s, hs, h⟩ => by
  subst hs
  refine cps_bind h fun x s1 h1 => cps_bind h1 fun lo s2 h2 => cps_bind h2 fun hi s3 h3 => ?_
  obtain ⟨z, e, q⟩ := post_opt h3
  unfold oCut at e
  split at e
  · cases e; exact q
  · cases e; exact q
  · obtain ⟨z1, rfl⟩ := if_some e; exact ⟨z1, q⟩
  · cases e
/-! calls of the text's own defs -/
abbrev FF := List D → Ds → Out D
def spF (M : Md) (f : FF) : DSp := fun R ds Q E => ∃ s, R = resOf M s ∧ (f ds s).post (fun d s' => Q (resOf M s') d) (fun c fs s' => E (resOf M s') c fs)
def mCall (f : FF) (mr : FA) : FE := fun ρ s => (mr ρ s).bind fun ds s => f ds s
theorem me_og {k j : Nat} {ps : List Str} {f : FF} {x : Str} {p : Pos} (h : OkG X.prog X.w X.K X.mg X.base j x ps (spF X.md f)) (hr : Room k X.A) (hj : j ≤ k) (hgd : X.A.guards = some []) (hg : Gl X x) (tk : Takes X W) (ha : MA X W (e :: es) mr)
    (hdb : (x == ("__debug__" : Str)) = false := by decide) (he : starEach (e :: es) X.env = (false, eval e X.env) :: starEach es X.env := by rfl) (hpl : (backTo pos (starEach es X.env)).any (·.1) = false := by rfl) :
    ME X W (.Call (.Name x p) (e :: es) [] pos) (mCall f mr) := de_mono (de_og h hr hj hgd hg tk ha hdb he hpl) fun R ρ Q E ⟨s, hs, h⟩ => by
  subst hs
  exact cps_bind h fun ds s1 h1 => ⟨s1, rfl, h1⟩
end
end DL

set_option Elab.async false
set_option linter.all false
set_option maxRecDepth 100000
set_option maxHeartbeats 1000000
namespace DL
open PySem L2
variable {M : Md}
/-! ### targets -/
abbrev OG := D → Env → Option Env
def GF (g : DG) (o : OG) : Prop := ∀ d ρ ρ' (Q : Env → Prop), o d ρ = some ρ' → Q ρ' → g d ρ Q
def ogName (i : Nat) : OG := fun d ρ => some (ρ.set i (some d))
theorem gf_name (i : Nat) : GF (gdName i) (ogName i) := fun d ρ ρ' Q h q => by cases h; exact q
def tupD : D → Option (List D)
  | .tup ds => some ds
  | .tpw ds => some ds
  | _ => none
theorem tupD_eq {d : D} {ds : List D} (h : tupD d = some ds) : d = .tup ds ∨ d = .tpw ds := by
  unfold tupD at h
  split at h
  · cases h; exact .inl rfl
  · cases h; exact .inr rfl
  · cases h
def og2 (i j : Nat) : OG := fun d ρ => match tupD d with
  | some [x, y] => some ((ρ.set i (some x)).set j (some y))
  | _ => none
def og3 (i j k : Nat) : OG := fun d ρ => match tupD d with
  | some [x, y, z] => some (((ρ.set i (some x)).set j (some y)).set k (some z))
  | _ => none
theorem gf_2 (i j : Nat) : GF (gd2 i j) (og2 i j) := fun d ρ ρ' Q h q => by
  unfold og2 at h
  split at h
  · rename_i x y e
    cases h
    exact ⟨_, tupD_eq e, _, _, rfl, _, _, rfl, rfl, q⟩
  · cases h
theorem gf_3 (i j k : Nat) : GF (gd3 i j k) (og3 i j k) := fun d ρ ρ' Q h q => by
  unfold og3 at h
  split at h
  · rename_i x y z e
    cases h
    exact ⟨_, tupD_eq e, _, _, rfl, _, _, rfl, _, _, rfl, rfl, q⟩
  · cases h
/-! ### what is walked -/
section
variable {X : Cx} {W : WX} {a b c e e2 tg : Expr} {es rest : List Expr} {ma mb mc m : FE} {mA mB mT mU : FB} {mr mr2 mi : FA} {pos : Pos} {js : List Nat} {g : DG} {og : OG}
def mItems (m : FE) : FA := fun ρ s => (m ρ s).bind fun d s => optO (itemsD d) s
theorem mi_any (he : ME X W e m) : MI X W tg e (mItems m) := di_mono (di_any he) fun R ρ Q E ⟨s, hs, h⟩ => by
  subst hs
  refine cps_bind h fun x s1 h1 => ?_
  obtain ⟨z, e, q⟩ := post_opt h1
  exact ⟨z, e, q⟩
def oRange1 : List D → Option (List D)
  | [.int j] => if j.natAbs < 2 ^ 62 then some (rangeD 0 j.toNat) else none
  | _ => none
def oRange2 : List D → Option (List D)
  | [.int i, .int j] => if i.natAbs < 2 ^ 62 ∧ j.natAbs < 2 ^ 62 then some (rangeD i (j - i).toNat) else none
  | _ => none
def oZip : List D → Option (List D)
  | [.lst xs, .lst ys] => some (zipD xs ys)
  | [.tup xs, .tup ys] => some (zipD xs ys)
  | _ => none
def oEnum : List D → Option (List D)
  | [.lst xs] => some (enumD 0 xs)
  | _ => none
def mIt (o : List D → Option (List D)) (mr : FA) : FA := fun ρ s => (mr ρ s).bind fun ds s => optO (o ds) s
theorem mi_range1 {p : Pos} (hg : Gl X "range") (hm : X.mg "range" = none) (ha : MA X W [a] mr) (hs : starEach [a] X.env = [(false, eval a X.env)] := by rfl) : MI X W tg (.Call (.Name "range" p) [a] [] pos) (mIt oRange1 mr) := di_mono (di_range1 hg hm ha hs) fun R ρ Q E ⟨s, hs, h⟩ => by
  subst hs
  refine cps_bind h fun x s1 h1 => ?_
  obtain ⟨z, e, q⟩ := post_opt h1
  unfold oRange1 at e
  split at e
  · obtain ⟨z1, rfl⟩ := if_some e; exact ⟨_, rfl, by omega, by omega, q⟩
  · cases e
theorem mi_range2 {p : Pos} (hg : Gl X "range") (hm : X.mg "range" = none) (ha : MA X W [a, b] mr) (hs : starEach [a, b] X.env = [(false, eval a X.env), (false, eval b X.env)] := by rfl) (hs2 : starEach [b] X.env = [(false, eval b X.env)] := by rfl) : MI X W tg (.Call (.Name "range" p) [a, b] [] pos) (mIt oRange2 mr) := di_mono (di_range2 hg hm ha hs hs2) fun R ρ Q E ⟨s, hs, h⟩ => by
  subst hs
  refine cps_bind h fun x s1 h1 => ?_
  obtain ⟨z, e, q⟩ := post_opt h1
  unfold oRange2 at e
  split at e
  · obtain ⟨⟨z1, z2⟩, rfl⟩ := if_some e; exact ⟨_, _, rfl, ⟨by omega, by omega, by omega, by omega⟩, q⟩
  · cases e
theorem mi_zip {p tpos : Pos} {elts : List Expr} {kk : Nat} (hg : Gl X "zip") (hm : X.mg "zip" = none) (ha : MA X W [e, e2] mr) (hs : starEach [e, e2] X.env = (false, eval e X.env) :: starEach [e2] X.env := by rfl)
    (hpl : (backTo pos (starEach [e2] X.env)).any (·.1) = false := by rfl) : MI X W (.Tuple elts kk tpos) (.Call (.Name "zip" p) [e, e2] [] pos) (mIt oZip mr) := di_mono (di_zip hg hm ha hs hpl) fun R ρ Q E ⟨s, hs, h⟩ => by
  subst hs
  refine cps_bind h fun x s1 h1 => ?_
  obtain ⟨z, e, q⟩ := post_opt h1
  unfold oZip at e
  split at e
  · cases e; exact .inl ⟨_, _, rfl, q⟩
  · cases e; exact .inr ⟨_, _, rfl, q⟩
  · cases e
theorem mi_enum {p tpos : Pos} {elts : List Expr} {kk : Nat} (hg : Gl X "enumerate") (hm : X.mg "enumerate" = none) (ha : MA X W [e] mr) (hs : starEach [e] X.env = [(false, eval e X.env)] := by rfl) :
    MI X W (.Tuple elts kk tpos) (.Call (.Name "enumerate" p) [e] [] pos) (mIt oEnum mr) := di_mono (di_enum hg hm ha hs) fun R ρ Q E ⟨s, hs, h⟩ => by
  subst hs
  refine cps_bind h fun x s1 h1 => ?_
  obtain ⟨z, e, q⟩ := post_opt h1
  unfold oEnum at e
  split at e
  · cases e; exact ⟨_, rfl, q⟩
  · cases e
/-! ### comprehensions -/
def lcF (og : OG) (mt : FB) (me : FE) (ρ : Env) : List D → Nat → Ds → Out (List D)
  | [], _, s => .ok [] s
  | d :: r, n, s => (optO (og d ρ) s).bind fun ρ2 s => (mt ρ2 s).bindN fun b s => if b = true then (me ρ2 s).bindN fun y s => if n < sizeLine then (lcF og mt me ρ r (n + 1) s).bind fun ys s => .ok (y :: ys) s else .err else lcF og mt me ρ r n s
def mLc (mi : FA) (og : OG) (mt : FB) (me : FE) (vs : List Nat) : FE := fun ρ s => (mi ρ s).bind fun ds s => (lcF og mt me (wipeD ρ vs) ds 0 s).bind fun out s => .ok (.lst out) s
theorem lcF_cps {mt : FB} {me : FE} (hg : GF g og) {ρ : Env} : ∀ (ds acc : List D) (s : Ds) (Q : Res → List D → Prop) {E : Str → List (Str × D) → Ds → Prop}, (lcF og mt me ρ ds acc.length s).post (fun out s' => Q (resOf M s') (acc ++ out)) E → lcGo g (cps M mt) (cps M me) ρ ds acc (resOf M s) Q
  | [], acc, s, Q, E, h => by
    have : Q (resOf M s) (acc ++ []) := h
    rw [List.append_nil] at this
    exact this
  | d :: r, acc, s, Q, E, h => by
    unfold lcF at h
    obtain ⟨ρ2, e, h1⟩ := post_opt ((Out.post_bind _).mp h)
    refine hg d ρ ρ2 _ e ⟨s, rfl, Out.post_mono (fun b s1 h2 => ?_) (fun _ _ _ z => z) _ ((Out.post_bindN _).mp h1)⟩
    cases b with
    | false => exact lcF_cps hg r acc s1 Q h2
    | true =>
      refine ⟨s1, rfl, Out.post_mono (fun y s2 h3 => ?_) (fun _ _ _ z => z) _ ((Out.post_bindN _).mp h2)⟩
      by_cases hn : acc.length < sizeLine
      · rw [if_pos hn] at h3
        have h4 := (Out.post_bind _).mp h3
        refine ⟨hn, lcF_cps hg r (acc ++ [y]) s2 Q (E := E) ?_⟩
        rw [List.length_append]
        refine Out.post_mono (fun out s3 h5 => ?_) (fun _ _ _ z => z) _ h4
        rw [List.append_assoc]
        exact h5
      · rw [if_neg hn] at h3; exact h3.elim
theorem mLc_cps {mt : FB} {me : FE} (hg : GF g og) {vs : List Nat} {R : Res} {ρ : Env} {Q : DQ} {E : DX} (h : cps M (mLc mi og mt me vs) R ρ Q E) : dLc (cps M mi) g (cps M mt) (cps M me) vs R ρ Q E := by
  obtain ⟨s, rfl, h⟩ := h
  refine cps_bind h fun ds s1 h1 => ?_
  exact lcF_cps hg ds [] s1 _ (Out.post_mono (fun out s2 h2 => h2) (fun _ _ _ z => z) _ ((Out.post_bind _).mp h1))
def mYes : FB := fun _ s => .ok true s
theorem mts_nil : MTs X W [] mYes := dts_mono dts_nil fun R ρ Q E ⟨s, hs, h⟩ => by subst hs; exact h
theorem mts_one (h : MT X W a mA) : MTs X W [a] mA := dts_one h
theorem me_lc {iter elt : Expr} {ifs : List Expr} {scope : Scope} {own : List (Str × Nat)} {mt : FB} {me : FE} (hgf : GF g og) (hc : X.calm = true) (hN : X.N.Nodup) (hi : MI X W tg iter mi) (ok : BlkOk X.N X.env.scope scope own)
    (hg : ∀ (s : Shared) (H : Hp) (C : Addr) (cl : List (Str × Addr)) (fp : List Addr), DGt (X.blk s H scope (compEnvC scope cl C X.env) fp) js tg g)
    (ht : ∀ (s : Shared) (H : Hp) (C : Addr) (cl : List (Str × Addr)) (fp : List Addr), MTs (X.blk s H scope (compEnvC scope cl C X.env) fp) W0 ifs mt)
    (he : ∀ (s : Shared) (H : Hp) (C : Addr) (cl : List (Str × Addr)) (fp : List Addr), ME (X.blk s H scope (compEnvC scope cl C X.env) fp) W0 elt me) (hj : ∀ i ∈ js, i ∈ own.map (·.2) := by decide) (hs : ∀ x, foldedSetIterable iter X.env x = pure x := by intro _; rfl) :
    ME X W (.ListComp elt [⟨tg, iter, ifs, 0⟩] scope pos) (mLc mi og mt me (own.map (·.2))) := de_mono (de_lc hc hN hi ok hg ht he hj hs) fun _ _ _ _ h => mLc_cps hgf h
def lc2F (og : OG) (mt : FB) (mi1 : FA) (og1 : OG) (mt1 : FB) (me : FE) (vs1 : List Nat) (ρ : Env) : List D → Nat → Ds → Out (List D)
  | [], _, s => .ok [] s
  | d :: r, n, s => (optO (og d ρ) s).bind fun ρ2 s => (mt ρ2 s).bindN fun b s => if b = true then (mi1 ρ2 s).bindN fun ds1 s => (lcF og1 mt1 me (wipeD ρ2 vs1) ds1 n s).bind fun ys s => (lc2F og mt mi1 og1 mt1 me vs1 ρ r (n + ys.length) s).bind fun zs s => .ok (ys ++ zs) s else lc2F og mt mi1 og1 mt1 me vs1 ρ r n s
def mLc2 (mi : FA) (og : OG) (mt : FB) (mi1 : FA) (og1 : OG) (mt1 : FB) (me : FE) (vs vs1 : List Nat) : FE := fun ρ s => (mi ρ s).bind fun ds s => (lc2F og mt mi1 og1 mt1 me vs1 (wipeD ρ vs) ds 0 s).bind fun out s => .ok (.lst out) s
theorem lc2F_cps {g1 : DG} {og1 : OG} {mt mt1 : FB} {mi1 : FA} {me : FE} {vs1 : List Nat} (hg : GF g og) (hg1 : GF g1 og1) {ρ : Env} : ∀ (ds acc : List D) (s : Ds) (Q : Res → List D → Prop) {E : Str → List (Str × D) → Ds → Prop}, (lc2F og mt mi1 og1 mt1 me vs1 ρ ds acc.length s).post (fun out s' => Q (resOf M s') (acc ++ out)) E → lc2Go g (cps M mt) (cps M mi1) g1 (cps M mt1) (cps M me) vs1 ρ ds acc (resOf M s) Q
  | [], acc, s, Q, E, h => by
    have : Q (resOf M s) (acc ++ []) := h
    rw [List.append_nil] at this
    exact this
  | d :: r, acc, s, Q, E, h => by
    unfold lc2F at h
    obtain ⟨ρ2, e, h1⟩ := post_opt ((Out.post_bind _).mp h)
    refine hg d ρ ρ2 _ e ⟨s, rfl, Out.post_mono (fun b s1 h2 => ?_) (fun _ _ _ z => z) _ ((Out.post_bindN _).mp h1)⟩
    cases b with
    | false => exact lc2F_cps hg hg1 r acc s1 Q h2
    | true =>
      refine ⟨s1, rfl, Out.post_mono (fun ds1 s2 h3 => ?_) (fun _ _ _ z => z) _ ((Out.post_bindN _).mp h2)⟩
      refine lcF_cps hg1 ds1 acc s2 _ (E := E) (Out.post_mono (fun ys s3 h4 => ?_) (fun _ _ _ z => z) _ ((Out.post_bind _).mp h3))
      refine lc2F_cps hg hg1 r (acc ++ ys) s3 Q (E := E) ?_
      rw [List.length_append]
      refine Out.post_mono (fun zs s4 h5 => ?_) (fun _ _ _ z => z) _ ((Out.post_bind _).mp h4)
      rw [List.append_assoc]
      exact h5
theorem mLc2_cps {g1 : DG} {og1 : OG} {mt mt1 : FB} {mi1 : FA} {me : FE} (hg : GF g og) (hg1 : GF g1 og1) {vs vs1 : List Nat} {R : Res} {ρ : Env} {Q : DQ} {E : DX} (h : cps M (mLc2 mi og mt mi1 og1 mt1 me vs vs1) R ρ Q E) : dLc2 (cps M mi) g (cps M mt) (cps M mi1) g1 (cps M mt1) (cps M me) vs vs1 R ρ Q E := by
  obtain ⟨s, rfl, h⟩ := h
  refine cps_bind h fun ds s1 h1 => ?_
  exact lc2F_cps hg hg1 ds [] s1 _ (Out.post_mono (fun out s2 h2 => h2) (fun _ _ _ z => z) _ ((Out.post_bind _).mp h1))
theorem me_lc2 {iter elt tg1 iter1 : Expr} {ifs ifs1 : List Expr} {scope : Scope} {own : List (Str × Nat)} {vs1 js1 : List Nat} {mi1 : FA} {g1 : DG} {og1 : OG} {mt mt1 : FB} {me : FE} (hgf : GF g og) (hgf1 : GF g1 og1) (hc : X.calm = true) (hN : X.N.Nodup) (hi : MI X W tg iter mi) (ok : BlkOk X.N X.env.scope scope own) (hv : ∀ i ∈ vs1, i ∈ own.map (·.2))
    (hg : ∀ (s : Shared) (H : Hp) (C : Addr) (cl : List (Str × Addr)) (fp : List Addr), DGt (X.blk s H scope (compEnvC scope cl C X.env) fp) js tg g) (ht : ∀ (s : Shared) (H : Hp) (C : Addr) (cl : List (Str × Addr)) (fp : List Addr), MTs (X.blk s H scope (compEnvC scope cl C X.env) fp) W0 ifs mt)
    (hi1 : ∀ (s : Shared) (H : Hp) (C : Addr) (cl : List (Str × Addr)) (fp : List Addr), MI (X.blk s H scope (compEnvC scope cl C X.env) fp) W0 tg1 iter1 mi1) (hg1 : ∀ (s : Shared) (H : Hp) (C : Addr) (cl : List (Str × Addr)) (fp : List Addr), DGt (X.blk s H scope (compEnvC scope cl C X.env) fp) js1 tg1 g1)
    (ht1 : ∀ (s : Shared) (H : Hp) (C : Addr) (cl : List (Str × Addr)) (fp : List Addr), MTs (X.blk s H scope (compEnvC scope cl C X.env) fp) W0 ifs1 mt1) (he : ∀ (s : Shared) (H : Hp) (C : Addr) (cl : List (Str × Addr)) (fp : List Addr), ME (X.blk s H scope (compEnvC scope cl C X.env) fp) W0 elt me)
    (hj : ∀ i ∈ js, i ∈ own.map (·.2) := by decide) (hj1 : ∀ i ∈ js1, i ∈ vs1 := by decide) (hs : ∀ x, foldedSetIterable iter X.env x = pure x := by intro _; rfl) (hs1 : ∀ env x, foldedSetIterable iter1 env x = pure x := by intro _ _; rfl) :
    ME X W (.ListComp elt [⟨tg, iter, ifs, 0⟩, ⟨tg1, iter1, ifs1, 0⟩] scope pos) (mLc2 mi og mt mi1 og1 mt1 me (own.map (·.2)) vs1) := de_mono (de_lc2 hc hN hi ok hv hg ht hi1 hg1 ht1 he hj hj1 hs hs1) fun _ _ _ _ h => mLc2_cps hgf hgf1 h
end
/-! ### statements -/
inductive Fl where
  | nx (ρ : Env)
  | rt (d : D)
  | bk (ρ : Env)
  | ct (ρ : Env)
  | ex (c : Str) (fs : List (Str × D)) (ρ : Env)
abbrev FX := Env → Ds → Out Fl
def endsAt (De : DEnds) (R : Res) : Fl → Prop
  | .nx ρ => De.nx R ρ
  | .rt d => De.rt R d
  | .bk ρ => De.bk R ρ
  | .ct ρ => De.ct R ρ
  | .ex c fs ρ => De.ex R c fs ρ
abbrev postS (M : Md) (De : DEnds) (x : Out Fl) : Prop := x.post (fun fl s' => endsAt De (resOf M s') fl) (fun _ _ _ => False)
def cpsS (M : Md) (m : FX) : DSt := fun R De ρ => ∃ s, R = resOf M s ∧ postS M De (m ρ s)
/-- an expression within a statement -/
def stE {α : Type} (m : Env → Ds → Out α) (ρ : Env) (s : Ds) (k : α → Ds → Out Fl) : Out Fl := (m ρ s).bind2 (fun c fs s => .ok (.ex c fs ρ) s) k
theorem stE_cps {α : Type} {m : Env → Ds → Out α} {ρ : Env} {s : Ds} {k : α → Ds → Out Fl} {De : DEnds} {Q : Res → α → Prop} (h : postS M De (stE m ρ s k)) (hk : ∀ a s1, postS M De (k a s1) → Q (resOf M s1) a) : cps M m (resOf M s) ρ Q (fun R c fs => De.ex R c fs ρ) :=
  ⟨s, rfl, Out.post_mono hk (fun _ _ _ z => z) _ ((Out.post_bind2 _).mp h)⟩
section
variable {X : Cx} {W : WX} {a b c e e2 tg : Expr} {es rest : List Expr} {ma mb mc m : FE} {mA mB mT mU : FB} {mr mr2 mi : FA} {pos : Pos} {js : List Nat} {g : DG} {og : OG} {st : Stmt} {sts sts2 : List Stmt} {ms mu : FX}
abbrev MS (X : Cx) (W : WX) (st : Stmt) (m : FX) : Prop := DS X W st (cpsS X.md m)
abbrev MSs (X : Cx) (W : WX) (st : List Stmt) (m : FX) : Prop := DSs X W st (cpsS X.md m)
theorem ds_mono {t t' : DSt} (h : DS X W st t) (f : ∀ R De ρ, t' R De ρ → t R De ρ) : DS X W st t' := h.imp fun En σ H ⟨R, F0, B, Fz, ρ, De, s, q, x⟩ => ⟨R, F0, B, Fz, ρ, De, s, f _ _ _ q, x⟩
theorem dss_mono {t t' : DSt} (h : DSs X W sts t) (f : ∀ R De ρ, t' R De ρ → t R De ρ) : DSs X W sts t' := h.imp fun En σ H ⟨R, F0, B, Fz, ρ, De, s, q, x⟩ => ⟨R, F0, B, Fz, ρ, De, s, f _ _ _ q, x⟩
def mNext : FX := fun ρ s => .ok (.nx ρ) s
theorem mss_nil : MSs X W [] mNext := dss_mono dss_nil fun R De ρ ⟨s, hs, h⟩ => by subst hs; exact h
def mThen (m u : FX) : FX := fun ρ s => (m ρ s).bind fun fl s => match fl with
  | .nx ρ' => u ρ' s
  | fl => .ok fl s
theorem mss_cons (h1 : MS X W st ms) (h2 : MSs X W sts mu) : MSs X W (st :: sts) (mThen ms mu) := dss_mono (dss_cons h1 h2) fun R De ρ ⟨s, hs, h⟩ => by
  subst hs
  refine ⟨s, rfl, Out.post_mono (fun fl s1 h1 => ?_) (fun _ _ _ z => z) _ ((Out.post_bind _).mp h)⟩
  cases fl with
  | nx ρ' => exact ⟨s1, rfl, h1⟩
  | _ => exact h1
theorem mss_one (h1 : MS X W st ms) : MSs X W [st] ms := dss_one h1
def mRet (m : FE) : FX := fun ρ s => stE m ρ s fun d s => .ok (.rt d) s
theorem ms_ret (he : ME X W e m) : MS X W (.Return (some e) pos) (mRet m) := ds_mono (ds_ret he) fun R De ρ ⟨s, hs, h⟩ => by subst hs; exact stE_cps h fun a s1 h1 => h1
def mRetN : FX := fun _ s => .ok (.rt .non) s
theorem ms_retN : MS X W (.Return none pos) mRetN := ds_mono ds_retN fun R De ρ ⟨s, hs, h⟩ => by subst hs; exact h
theorem ms_pass : MS X W (.Pass pos) mNext := ds_mono ds_pass fun R De ρ ⟨s, hs, h⟩ => by subst hs; exact h
/-- a way that is not taken -/
def mNo : FX := fun _ _ => .err
theorem ms_no : MS X W st mNo := ds_mono ds_never fun R De ρ ⟨s, hs, h⟩ => h.elim
def mSet (i : Nat) (m : FE) : FX := fun ρ s => stE m ρ s fun d s => .ok (.nx (ρ.set i (some d))) s
theorem mSet_cps {i : Nat} {t : DT} (ht : ∀ {R : Res} {ρ : Env} {Q : DQ} {E : DX}, cps M m R ρ Q E → t R ρ Q E) {R : Res} {De : DEnds} {ρ : Env} (h : cpsS M (mSet i m) R De ρ) : dSet i t R De ρ := by
  obtain ⟨s, rfl, h⟩ := h; exact ht (stE_cps h fun a s1 h1 => h1)
theorem ms_set {i : Nat} {x : Str} {pos' : Pos} (hN : X.N.Nodup) (hi : X.N[i]? = some x) (hx : Loc X.env.scope x) (he : ME X W e m) (hs : swapsWith e (some (.Name x pos')) pos.line X.env = pure false := by rfl)
    (hf : X.fn x = true ∨ X.env.scope.names.lookup x = some .local := by first | exact .inl rfl | exact .inr rfl | assumption) : MS X W (.Assign [.Name x pos'] e pos) (mSet i m) := ds_mono (ds_set hN hi hx he hs hf) fun R De ρ h => mSet_cps (fun z => z) h
theorem ms_setLc {i : Nat} {y : Str} {py : Pos} {iter elt : Expr} {ifs : List Expr} {scope : Scope} {own : List (Str × Nat)} {spos : Pos} {mt : FB} {me : FE} (hgf : GF g og) (hc : X.calm = true) (hN : X.N.Nodup) (hy : X.N[i]? = some y) (hyl : X.env.scope.names.lookup y = some .local)
    (hsw : swapsWith (.ListComp elt [⟨tg, iter, ifs, 0⟩] scope pos) (some (.Name y py)) spos.line X.env = pure true) (hi : MI X W tg iter mi) (ok : BlkOk X.N X.env.scope scope own)
    (hg : ∀ (s : Shared) (H : Hp) (C : Addr) (cl : List (Str × Addr)) (fp : List Addr), DGt (X.blk s H scope (compEnvC scope cl C X.env) fp) js tg g)
    (ht : ∀ (s : Shared) (H : Hp) (C : Addr) (cl : List (Str × Addr)) (fp : List Addr), MTs (X.blk s H scope (compEnvC scope cl C X.env) fp) W0 ifs mt)
    (he : ∀ (s : Shared) (H : Hp) (C : Addr) (cl : List (Str × Addr)) (fp : List Addr), ME (X.blk s H scope (compEnvC scope cl C X.env) fp) W0 elt me) (hj : ∀ i ∈ js, i ∈ own.map (·.2) := by decide) (hs : ∀ x, foldedSetIterable iter X.env x = pure x := by intro _; rfl) :
    MS X W (.Assign [.Name y py] (.ListComp elt [⟨tg, iter, ifs, 0⟩] scope pos) spos) (mSet i (mLc mi og mt me (own.map (·.2)))) := ds_mono (ds_setLc hc hN hy hyl hsw hi ok hg ht he hj hs) fun R De ρ h => mSet_cps (fun z => mLc_cps hgf z) h
theorem ms_setLc2 {i : Nat} {y : Str} {py : Pos} {iter elt tg1 iter1 : Expr} {ifs ifs1 : List Expr} {scope : Scope} {own : List (Str × Nat)} {vs1 js1 : List Nat} {spos : Pos} {mi1 : FA} {g1 : DG} {og1 : OG} {mt mt1 : FB} {me : FE} (hgf : GF g og) (hgf1 : GF g1 og1) (hc : X.calm = true) (hN : X.N.Nodup) (hy : X.N[i]? = some y) (hyl : X.env.scope.names.lookup y = some .local)
    (hsw : swapsWith (.ListComp elt [⟨tg, iter, ifs, 0⟩, ⟨tg1, iter1, ifs1, 0⟩] scope pos) (some (.Name y py)) spos.line X.env = pure true) (hi : MI X W tg iter mi) (ok : BlkOk X.N X.env.scope scope own) (hv : ∀ i ∈ vs1, i ∈ own.map (·.2))
    (hg : ∀ (s : Shared) (H : Hp) (C : Addr) (cl : List (Str × Addr)) (fp : List Addr), DGt (X.blk s H scope (compEnvC scope cl C X.env) fp) js tg g) (ht : ∀ (s : Shared) (H : Hp) (C : Addr) (cl : List (Str × Addr)) (fp : List Addr), MTs (X.blk s H scope (compEnvC scope cl C X.env) fp) W0 ifs mt)
    (hi1 : ∀ (s : Shared) (H : Hp) (C : Addr) (cl : List (Str × Addr)) (fp : List Addr), MI (X.blk s H scope (compEnvC scope cl C X.env) fp) W0 tg1 iter1 mi1) (hg1 : ∀ (s : Shared) (H : Hp) (C : Addr) (cl : List (Str × Addr)) (fp : List Addr), DGt (X.blk s H scope (compEnvC scope cl C X.env) fp) js1 tg1 g1)
    (ht1 : ∀ (s : Shared) (H : Hp) (C : Addr) (cl : List (Str × Addr)) (fp : List Addr), MTs (X.blk s H scope (compEnvC scope cl C X.env) fp) W0 ifs1 mt1) (he : ∀ (s : Shared) (H : Hp) (C : Addr) (cl : List (Str × Addr)) (fp : List Addr), ME (X.blk s H scope (compEnvC scope cl C X.env) fp) W0 elt me)
    (hj : ∀ i ∈ js, i ∈ own.map (·.2) := by decide) (hj1 : ∀ i ∈ js1, i ∈ vs1 := by decide) (hs : ∀ x, foldedSetIterable iter X.env x = pure x := by intro _; rfl) (hs1 : ∀ env x, foldedSetIterable iter1 env x = pure x := by intro _ _; rfl) :
    MS X W (.Assign [.Name y py] (.ListComp elt [⟨tg, iter, ifs, 0⟩, ⟨tg1, iter1, ifs1, 0⟩] scope pos) spos) (mSet i (mLc2 mi og mt mi1 og1 mt1 me (own.map (·.2)) vs1)) := ds_mono (ds_setLc2 hc hN hy hyl hsw hi ok hv hg ht hi1 hg1 ht1 he hj hj1 hs hs1) fun R De ρ h => mSet_cps (fun z => mLc2_cps hgf hgf1 z) h
/-- a, b = e -/
def mAsg (m : FE) (og : OG) : FX := fun ρ s => stE m ρ s fun d s => (optO (og d ρ) s).bind fun ρ' s => .ok (.nx ρ') s
theorem ms_asg (hgf : GF g og) (he : ME X W e m) (hg : DGt X js tg g) (hof : OF js g) (hs : swapsWithSole [tg] e pos.line X.env = pure false := by rfl) (hw : swappedStores [tg] e X.env = pure none := by rfl) (h1 : (assignEach [tg] X.env).map (·.2) = [assign tg X.env] := by rfl) :
    MS X W (.Assign [tg] e pos) (mAsg m og) := ds_mono (ds_asg he hg hof hs hw h1) fun R De ρ ⟨s, hs, h⟩ => by
  subst hs
  refine stE_cps h fun d s1 h1 => ?_
  obtain ⟨ρ', e, q⟩ := post_opt ((Out.post_bind _).mp h1)
  exact hgf d ρ ρ' _ e q
def mIfS (mt : FB) (m u : FX) : FX := fun ρ s => stE mt ρ s fun b s => if b = true then m ρ s else u ρ s
theorem ms_if (hc : MT X W c mA) (ha : MSs X W sts ms) (hb : MSs X W sts2 mu) : MS X W (.If c sts sts2 pos) (mIfS mA ms mu) := ds_mono (ds_if hc ha hb) fun R De ρ ⟨s, hs, h⟩ => by
  subst hs
  refine stE_cps h fun b s1 h1 => ?_
  cases b with
  | true => exact ⟨s1, rfl, h1⟩
  | false => exact ⟨s1, rfl, h1⟩
def mDrop (m : FE) : FX := fun ρ s => stE m ρ s fun _ s => .ok (.nx ρ) s
theorem ms_expr (he : ME X W e m) (hs : swapsWith e none pos.line X.env = pure false := by rfl) : MS X W (.Expr e pos) (mDrop m) := ds_mono (ds_expr he hs) fun R De ρ ⟨s, hs, h⟩ => by subst hs; exact stE_cps h fun a s1 h1 => h1
/-- for -/
def forF (og : OG) (mb : FX) : List D → Env → Ds → Out Fl
  | [], ρ, s => .ok (.nx ρ) s
  | d :: r, ρ, s => (optO (og d ρ) s).bind fun ρ2 s => (mb ρ2 s).bind fun fl s => match fl with
    | .nx ρ' => forF og mb r ρ' s
    | .ct ρ' => forF og mb r ρ' s
    | .bk ρ' => .ok (.nx ρ') s
    | fl => .ok fl s
def mFor (mi : FA) (og : OG) (mb : FX) : FX := fun ρ s => stE mi ρ s fun ds s => forF og mb ds ρ s
theorem forF_cps (hgf : GF g og) {De : DEnds} : ∀ (ds : List D) (ρ : Env) (s : Ds), postS M De (forF og ms ds ρ s) → forGo g (cpsS M ms) De ds (resOf M s) ρ
  | [], ρ, s, h => h
  | d :: r, ρ, s, h => by
    unfold forF at h
    obtain ⟨ρ2, e, h1⟩ := post_opt ((Out.post_bind _).mp h)
    refine hgf d ρ ρ2 _ e ⟨s, rfl, Out.post_mono (fun fl s1 h2 => ?_) (fun _ _ _ z => z) _ ((Out.post_bind _).mp h1)⟩
    cases fl with
    | nx ρ' => exact forF_cps hgf r ρ' s1 h2
    | ct ρ' => exact forF_cps hgf r ρ' s1 h2
    | _ => exact h2
theorem ms_for {iter : Expr} {body : List Stmt} (hgf : GF g og) (hp : PassesOwn (model X.prog X.w) X.A X.env X.xe) (hc : X.calm = true) (hi : MI X W tg iter mi) (hg : DGt X js tg g) (hb : MSs X W body ms) (hof : OF js g) (hs : ∀ x, foldedSetIterable iter X.env x = pure x := by intro _; rfl) :
    MS X W (.For tg iter body [] pos) (mFor mi og ms) := ds_mono (ds_for hp hc hi hg hb hof hs) fun R De ρ ⟨s, hs, h⟩ => by
  subst hs
  exact stE_cps h fun ds s1 h1 => forF_cps hgf ds ρ s1 h1
/-- while -/
def whF (mt : FB) (mb : FX) : Nat → Env → Ds → Out Fl
  | 0, _, _ => .err
  | n + 1, ρ, s => stE mt ρ s fun b s => if b = true then (mb ρ s).bind fun fl s => match fl with
    | .nx ρ' => whF mt mb n ρ' s
    | .ct ρ' => whF mt mb n ρ' s
    | .bk ρ' => .ok (.nx ρ') s
    | fl => .ok fl s else .ok (.nx ρ) s
def mWhile (mt : FB) (mb : FX) : FX := fun ρ s => .fuel fun n => whF mt mb n ρ s
theorem ms_while {body : List Stmt} (hp : PassesOwn (model X.prog X.w) X.A X.env X.xe) (hc : MT X W c mA) (hb : MSs X W body ms) : MS X W (.While c body [] pos) (mWhile mA ms) := (ps_while hp hc hb).imp fun En σ H ⟨R, F0, B, Fz, ρ, De, sr, ⟨s, hs, n, q⟩, x⟩ => by
  subst hs
  refine ⟨fun m σ' H' => ∃ s B' Fz' ρ', Ex B B' ∧ SR X.md (resOf X.md s) F0 B' Fz' H' σ' ρ' ∧ postS X.md De (whF mA ms m ρ' s), ⟨n, s, B, Fz, ρ, Ex.refl _, sr, q⟩, ?_⟩
  rintro m σ' H' ⟨s1, B1, Fz1, ρ1, e1, sr1, q1⟩
  cases m with
  | zero => exact q1.elim
  | succ m =>
    have x1 := x.mono e1
    refine ⟨_, Fz1, B1, ρ1, _, _, sr1.wd, sr1.sl, stE_cps (Q := fun R b => ∃ s2, R = resOf X.md s2 ∧ postS X.md De (if b = true then (ms ρ1 s2).bind fun fl s => match fl with | .nx ρ' => whF mA ms m ρ' s | .ct ρ' => whF mA ms m ρ' s | .bk ρ' => .ok (.nx ρ') s | fl => .ok fl s else .ok (.nx ρ1) s2)) q1 (fun b s2 h => ⟨s2, rfl, h⟩), fun R2 b H2 B2 e2 w2 h2 => ?_, x1.xl sr1⟩
    obtain ⟨s2, rfl, h2⟩ := h2
    have sr2 := sr1.grow e2 w2
    cases b with
    | false => exact x1.nx _ _ _ _ _ _ e2 sr2 h2
    | true =>
      rw [if_pos rfl] at h2 ⊢
      refine ⟨fun σ3 H3 => ∃ s B' Fz' ρ', Ex B B' ∧ SR X.md (resOf X.md s) F0 B' Fz' H3 σ3 ρ' ∧ postS X.md De (whF mA ms m ρ' s), fun σ3 H3 z => ⟨m, Nat.lt_succ_self m, z⟩, ?_⟩
      have h3 := (Out.post_bind _).mp h2
      refine ⟨_, F0, B2, Fz1, ρ1, { De with nx := fun R ρ' => ∃ s, R = resOf X.md s ∧ postS X.md De (whF mA ms m ρ' s), ct := fun R ρ' => ∃ s, R = resOf X.md s ∧ postS X.md De (whF mA ms m ρ' s), bk := De.nx }, sr2, ⟨s2, rfl, Out.post_mono (fun fl s3 h4 => ?_) (fun _ _ _ z => z) _ h3⟩, ?_⟩
      · cases fl with
        | nx ρ' => exact ⟨s3, rfl, h4⟩
        | ct ρ' => exact ⟨s3, rfl, h4⟩
        | _ => exact h4
      · have x2 := x1.mono e2
        exact ⟨fun R5 σ5 ρ5 B5 Fz5 H5 e5 s5 ⟨s6, hs6, q5⟩ => ⟨s6, B5, Fz5, ρ5, (e1.trans e2).trans e5, hs6 ▸ s5, q5⟩, x2.rt, x2.nx, fun R5 σ5 ρ5 B5 Fz5 H5 e5 s5 ⟨s6, hs6, q5⟩ => ⟨s6, B5, Fz5, ρ5, (e1.trans e2).trans e5, hs6 ▸ s5, q5⟩, x2.ex⟩
/-- a, b = x, y -/
def mPar (i j : Nat) (mr : FA) : FX := fun ρ s => stE mr ρ s fun ds s => match ds with
  | [u, v] => .ok (.nx ((ρ.set i (some u)).set j (some v))) s
  | _ => .err
theorem ms_par {i j : Nat} {x y : Str} {px py pt : Pos} {kt k2 pt2} (hc : X.calm = true) (hN : X.N.Nodup) (hi : X.N[i]? = some x) (hj : X.N[j]? = some y) (hij : i ≠ j) (hx : X.env.scope.names.lookup x = some .local) (hy : X.env.scope.names.lookup y = some .local)
    (ha : MA X W [a, b] mr) (hw : swappedStores [.Tuple [.Name x px, .Name y py] kt pt] (.Tuple [a, b] k2 pt2) X.env = pure (some [x, y])) (hs : swapsWithSole [.Tuple [.Name x px, .Name y py] kt pt] (.Tuple [a, b] k2 pt2) pos.line X.env = pure false := by rfl) :
    MS X W (.Assign [.Tuple [.Name x px, .Name y py] kt pt] (.Tuple [a, b] k2 pt2) pos) (mPar i j mr) := ds_mono (ds_par hc hN hi hj hij hx hy ha hw hs) fun R De ρ ⟨s, hs, h⟩ => by
  subst hs
  refine stE_cps h fun ds s1 h1 => ?_
  match ds, h1 with
  | [u, v], h1 => exact ⟨u, v, rfl, h1⟩
def mPar3 (i j l : Nat) (mr : FA) : FX := fun ρ s => stE mr ρ s fun ds s => match ds with
  | [u, v, z] => .ok (.nx (((ρ.set i (some u)).set j (some v)).set l (some z))) s
  | _ => .err
theorem ms_par3 {i j l : Nat} {x y z : Str} {px py pz pt : Pos} {kt k2 pt2} (hc : X.calm = true) (hN : X.N.Nodup) (hi : X.N[i]? = some x) (hj : X.N[j]? = some y) (hl : X.N[l]? = some z) (hij : i ≠ j) (hil : i ≠ l) (hjl : j ≠ l) (hx : X.env.scope.names.lookup x = some .local)
    (hy : X.env.scope.names.lookup y = some .local) (hz : X.env.scope.names.lookup z = some .local) (ha : MA X W [a, b, c] mr) (hw : swappedStores [.Tuple [.Name x px, .Name y py, .Name z pz] kt pt] (.Tuple [a, b, c] k2 pt2) X.env = pure (some [x, y, z]))
    (hs : swapsWithSole [.Tuple [.Name x px, .Name y py, .Name z pz] kt pt] (.Tuple [a, b, c] k2 pt2) pos.line X.env = pure false := by rfl) :
    MS X W (.Assign [.Tuple [.Name x px, .Name y py, .Name z pz] kt pt] (.Tuple [a, b, c] k2 pt2) pos) (mPar3 i j l mr) := ds_mono (ds_par3 hc hN hi hj hl hij hil hjl hx hy hz ha hw hs) fun R De ρ ⟨s, hs, h⟩ => by
  subst hs
  refine stE_cps h fun ds s1 h1 => ?_
  match ds, h1 with
  | [u, v, w], h1 => exact ⟨u, v, w, rfl, h1⟩
/-- raise C(e) -/
def mRaise (c fld : Str) (m : FE) : FX := fun ρ s => stE m ρ s fun d s => .ok (.ex c [(fld, d)] ρ) s
theorem ms_raise {k : Nat} {x fld : Str} {p pos' : Pos} (hc : X.calm = true) (tk : Takes X W) (T : XcD X.prog X.K X.mg x fld) (hbx : ∀ C, X.mg x = some (.ref C) → PySem.W.subIn X.K (.ref C) (.type "BaseException") = some true) (hsu : X.mg "super" = none) (hr : Room (k + 1) X.A) (hg : Gl X x) (he : ME X W e m) (hdb : (x == ("__debug__" : Str)) = false := by decide)
    (h1 : starEach [e] X.env = (false, eval e X.env) :: starEach [] X.env := by rfl) : MS X W (.Raise (some (.Call (.Name x p) [e] [] pos)) none pos') (mRaise x fld m) := ds_mono (ds_raise hc tk T hbx hsu hr hg he hdb h1) fun R De ρ ⟨s, hs, h⟩ => by subst hs; exact stE_cps h fun a s1 h1 => h1
/-! lists of one's own -/
abbrev MF (X : Cx) (W : WX) (e : Expr) (m : FA) : Prop := DF X W e (cps X.md m)
theorem df_mono {t t' : DA} (h : DF X W e t) (f : ∀ R ρ Q E, t' R ρ Q E → t R ρ Q E) : DF X W e t' := h.imp fun σ H Q ⟨R, Fz, B, ρ, Qd, E, w, sl, q, k, x⟩ => ⟨R, Fz, B, ρ, Qd, E, w, sl, f _ _ _ _ q, k, x⟩
def mfLst (mr : FA) : FA := fun ρ s => (mr ρ s).bind fun xs s => if xs.length ≤ sizeLine then .ok xs s else .err
theorem mf_lst (h : MA X W es mr) : MF X W (.List es pos) (mfLst mr) := df_mono (df_lst h) fun R ρ Q E ⟨s, hs, h⟩ => by
  subst hs
  refine cps_bind h fun x s1 h1 => ?_
  by_cases q : x.length ≤ sizeLine
  · rw [if_pos q] at h1; exact ⟨q, h1⟩
  · rw [if_neg q] at h1; exact h1.elim
def mOwn (i : Nat) (mr : FA) : FX := fun ρ s => stE mr ρ s fun ds s => .ok (.nx (ρ.set i (some (.own (.lst ds))))) s
theorem ms_own {i : Nat} {x : Str} {pos' : Pos} (hN : X.N.Nodup) (hi : X.N[i]? = some x) (hx : Loc X.env.scope x) (he : MF X W e mr) (hs : swapsWith e (some (.Name x pos')) pos.line X.env = pure false := by rfl)
    (hf : X.fn x = true ∨ X.env.scope.names.lookup x = some .local := by first | exact .inl rfl | exact .inr rfl | assumption) : MS X W (.Assign [.Name x pos'] e pos) (mOwn i mr) := ds_mono (ds_own hN hi hx he hs hf) fun R De ρ ⟨s, hs, h⟩ => by subst hs; exact stE_cps h fun a s1 h1 => h1
def ownLst (ρ : Env) (i : Nat) : Option (List D) := match ρ[i]? with
  | some (some (.own (.lst ds))) => some ds
  | _ => none
theorem ownLst_eq {ρ : Env} {i : Nat} {ds : List D} (h : ownLst ρ i = some ds) : ρ[i]? = some (some (.own (.lst ds))) := by
  unfold ownLst at h
  split at h
  · rename_i e; cases h; exact e
  · cases h
def mApp (i : Nat) (m : FE) : FX := fun ρ s => (optO (ownLst ρ i) s).bind fun ds s => stE m ρ s fun d s => if ds.length < sizeLine then .ok (.nx (ρ.set i (some (.own (.lst (ds ++ [d])))))) s else .err
theorem ms_app {i : Nat} {x : Str} {px p apos : Pos} (hN : X.N[i]? = some x) (he : ME X W e m) (hv : Vis X.env.scope x := by first | exact Or.inl rfl | exact Or.inr (Or.inl rfl) | exact Or.inr (Or.inr rfl)) (hd : (x == ("__debug__" : Str)) = false := by decide)
    (hcd : (x == ("__classdict__" : Str)) = false := by decide) (hline : (apos.endLine == p.line) = true := by rfl) (h1 : starEach [e] X.env = (false, eval e X.env) :: starEach [] X.env := by rfl)
    (hs : swapsWith (.Call (.Attribute (.Name x px) "append" apos) [e] [] p) none pos.line X.env = pure false := by rfl) : MS X W (.Expr (.Call (.Attribute (.Name x px) "append" apos) [e] [] p) pos) (mApp i m) := ds_mono (ds_app hN he hv hd hcd hline h1 hs) fun R De ρ ⟨s, hs, h⟩ => by
  subst hs
  obtain ⟨ds, e, q⟩ := post_opt ((Out.post_bind _).mp h)
  refine ⟨ds, ownLst_eq e, stE_cps q fun a s1 h1 => ?_⟩
  by_cases z : ds.length < sizeLine
  · rw [if_pos z] at h1; exact ⟨z, h1⟩
  · rw [if_neg z] at h1; exact h1.elim
def mGive (i : Nat) (u : FX) : FX := fun ρ s => (optO (ownLst ρ i) s).bind fun ds s => u (ρ.set i (some (.lst ds))) s
theorem mss_give (i : Nat) (h : MSs X W sts ms) : MSs X W sts (mGive i ms) := dss_mono (dss_give i h) fun R De ρ ⟨s, hs, h⟩ => by
  subst hs
  obtain ⟨ds, e, q⟩ := post_opt ((Out.post_bind _).mp h)
  exact ⟨ds, ownLst_eq e, s, rfl, q⟩
end
/-! ### a def -/
def flD : Fl → Ds → Out D
  | .nx _, s => .ok .non s
  | .rt d, s => .ok d s
  | .ex c fs _, s => .exc c fs s
  | .bk _, _ => .err
  | .ct _, _ => .err
def callF (k n : Nat) (m : FX) : FF := fun ds s => if ds.length = k then (m (startD n ds) s).bindN flD else .err
theorem spF_len {k n : Nat} {m : FX} {R : Res} {ds : List D} {Q : DQ} {E : DX} (h : spF M (callF k n m) R ds Q E) : ds.length = k := by
  obtain ⟨s, rfl, h⟩ := h
  unfold callF at h
  split at h
  · assumption
  · exact h.elim
theorem vcF {k n : Nat} {m : FX} (R : Res) (ds : List D) (Q : DQ) (E : DX) (h : spF M (callF k n m) R ds Q E) : cpsS M m R { nx := fun R _ => Q R .non, rt := Q, ex := fun R c fs _ => E R c fs } (startD n ds) := by
  obtain ⟨s, rfl, h⟩ := h
  unfold callF at h
  split at h
  · refine ⟨s, rfl, Out.post_mono (fun fl s1 h1 => ?_) (fun _ _ _ z => z) _ ((Out.post_bindN _).mp h)⟩
    cases fl <;> first | exact h1 | exact h1.elim
  · exact h.elim
section
variable {P : Program} {w : World} {K : PySem.W.Frag} {mg : Str → Option Value} {base : Heap}
/-- a def of the text computes what its mirror does -/
theorem okF {x : Str} {st : Stmt} {N ps : List Str} {k : Nat} {m : FX} (F : DefAt K mg x st) (S : FnScope N ps (defScope st))
    (bnd : ∀ (kV doc pm : Value) (an : Option Addr) (cdv ct : Value) (us : List Value), us.length = ps.length → bindArgs (PySem.W.fnOf x x (defArgs st) (defBody st) (defScope st) .none kV doc pm an cdv ct) ⟨us, []⟩ = pure (ps.zip us))
    (hbody : ∀ (f : Addr) (cdv : Value) (A : Around) (outer : List PySem.Env) (s : Shared) (H : Hp) (E : XK), Room k (A.deeper (PyProof.Rows.envOfC x (defScope st) s.heap.objs.size f cdv)) → A.guards = some [] →
      MSs (cxOf (L2.CX P w) P w K mg base N x (defScope st) f cdv A outer s H E) (fun cls d _ H => E cls d H) (defBody st) m) : OkG P w K mg base (k + 1) x ps (spF ⟨K, mg, w⟩ (callF ps.length N.length m)) :=
  okg_of F S (fun R ds Q E h => spF_len h) bnd (cpsS ⟨K, mg, w⟩ m) (fun R ds Q E h => vcF R ds Q E h) hbody
/-- a def of which nothing is promised -/
theorem okNo {x : Str} {st : Stmt} {N ps : List Str} {k : Nat} (F : DefAt K mg x st) (S : FnScope N ps (defScope st))
    (bnd : ∀ (kV doc pm : Value) (an : Option Addr) (cdv ct : Value) (us : List Value), us.length = ps.length → bindArgs (PySem.W.fnOf x x (defArgs st) (defBody st) (defScope st) .none kV doc pm an cdv ct) ⟨us, []⟩ = pure (ps.zip us)) : OkG P w K mg base k x ps (spF ⟨K, mg, w⟩ fun _ _ => .err) := by
  obtain ⟨f, fd, hm, F⟩ := F
  refine ⟨f, fd, hm, F.kp, F.binds bnd, ⟨fun vs H Q E h => ?_, fun A fs s H ar us vs Q E _ _ _ _ _ h => ?_⟩⟩
  · obtain ⟨R, Fz, B, ds, Qd, Ed, w, hd, ⟨s, _, h⟩, _⟩ := h; exact h.elim
  · obtain ⟨R, Fz, B, ds, Qd, Ed, w, hd, ⟨s, _, h⟩, _⟩ := h; exact h.elim
end
end DL

set_option Elab.async false
set_option linter.all false
set_option maxRecDepth 100000
set_option maxHeartbeats 1000000
namespace DL
open PySem L2 PySem.Spec PyProof.Rows
variable {M : Md}
/-! ### resources in parts -/
def Rle (R S : Res) : Prop := ∀ B G, R.ok B G → S.ok B G
theorem Rle.refl (R : Res) : Rle R R := fun _ _ h => h
theorem Rle.trans {R S T : Res} (a : Rle R S) (b : Rle S T) : Rle R T := fun B G h => b B G (a B G h)
theorem star_mono {R R' S S' : Res} (a : Rle R R') (b : Rle S S') : Rle (R.star S) (R'.star S') := fun B G ⟨G1, G2, h1, h2, h3, h4, h5⟩ => ⟨G1, G2, h1, h2, h3, a _ _ h4, b _ _ h5⟩
theorem star_comm {R S : Res} : Rle (R.star S) (S.star R) := fun B G ⟨G1, G2, h1, h2, h3, h4, h5⟩ => ⟨G2, G1, h2, h1, fun a => (h3 a).symm, h5, h4⟩
theorem star_left {R S T : Res} : Rle (R.star (S.star T)) ((R.star S).star T) := fun B G ⟨G1, G2, h1, h2, h3, h4, G3, G4, k1, k2, k3, k4, k5⟩ => by
  refine ⟨joinH G1 G3, G4, joinH_ex h1 (k1.trans h2), k2.trans h2, fun a => ?_, ⟨G1, G3, fun a o e => joinH_l e, fun a o e => ?_, fun a => ?_, h4, k4⟩, k5⟩
  · cases q : G4 a with
    | none => exact .inr rfl
    | some o =>
      refine .inl (joinH_of ?_ ?_)
      · rcases h3 a with z | z
        · exact z
        · rw [k2 a o q] at z; cases z
      · rcases k3 a with z | z
        · exact z
        · rw [q] at z; cases z
  · rcases h3 a with z | z
    · rw [joinH_r z]; exact e
    · rw [k1 a o e] at z; cases z
  · rcases h3 a with z | z
    · exact .inl z
    · exact .inr (k1.free z)
theorem star_right {R S T : Res} : Rle ((R.star S).star T) (R.star (S.star T)) := (star_comm.trans ((star_mono (Rle.refl _) star_comm).trans star_left)).trans (star_comm.trans (star_mono (Rle.refl _) star_comm))
theorem star_swap {R S T : Res} : Rle (R.star (S.star T)) (S.star (R.star T)) := star_left.trans ((star_mono star_comm (Rle.refl _)).trans star_right)
theorem Wd.weak {R S : Res} {B Fz H : Hp} (h : Rle R S) (w : Wd R B Fz H) : Wd S B Fz H := { w with res := let ⟨G, g1, g2, g3⟩ := w.res; ⟨G, g1, g2, h _ _ g3⟩ }
theorem Wd.drop {R S : Res} {B Fz H : Hp} (w : Wd (R.star S) B Fz H) : Wd S B Fz H := { w with res := let ⟨G, g1, g2, G1, G2, h1, h2, _, _, h5⟩ := w.res; ⟨G2, h2.trans g1, fun a o e => g2 a o (h2 _ _ e), h5⟩ }
structure Opened (R S : Res) (B Fz H G1 G2 : Hp) : Prop where
  ex : Ex B H
  fz : Ex Fz H
  sys : ∃ o, Fz sysModules = some (sysO o)
  dis : ∀ a o, Fz a = some o → B a = none
  e1 : Ex G1 H
  e2 : Ex G2 H
  d12 : ∀ a, G1 a = none ∨ G2 a = none
  n1 : ∀ a o, G1 a = some o → B a = none ∧ Fz a = none
  n2 : ∀ a o, G2 a = some o → B a = none ∧ Fz a = none
  r1 : R.ok B G1
  r2 : S.ok B G2
theorem Wd.opened {R S : Res} {B Fz H : Hp} (w : Wd (R.star S) B Fz H) : ∃ G1 G2, Opened R S B Fz H G1 G2 := by
  obtain ⟨G, g1, g2, G1, G2, h1, h2, h3, h4, h5⟩ := w.res
  exact ⟨G1, G2, w.ex, w.fz, w.sys, w.dis, h1.trans g1, h2.trans g1, h3, fun a o e => g2 a o (h1 _ _ e), fun a o e => g2 a o (h2 _ _ e), h4, h5⟩
theorem Opened.wd {R S : Res} {B Fz H G1 G2 : Hp} (o : Opened R S B Fz H G1 G2) : Wd (R.star S) B Fz H := by
  refine ⟨o.ex, o.fz, o.sys, o.dis, joinH G1 G2, joinH_ex o.e1 o.e2, fun a u e => ?_, G1, G2, fun a u e => joinH_l e, fun a u e => ?_, o.d12, o.r1, o.r2⟩
  · cases q : G1 a with
    | some v => exact o.n1 a v q
    | none => rw [joinH_r q] at e; exact o.n2 a u e
  · rcases o.d12 a with z | z
    · rw [joinH_r z]; exact e
    · rw [e] at z; cases z
/-- the object at a changes -/
theorem Opened.turn {R R' S : Res} {B Fz H G1 G2 : Hp} {a : Addr} {u o : HO} (h : Opened R S B Fz H G1 G2) (ha : G1 a = some u) (hr : R'.ok B (upd G1 a o)) : Opened R' S B Fz (upd H a o) (upd G1 a o) G2 where
  ex := fun b v e => by rw [upd_ne (ne_free (h.n1 _ _ ha).1 e)]; exact h.ex b v e
  fz := fun b v e => by rw [upd_ne (ne_free (h.n1 _ _ ha).2 e)]; exact h.fz b v e
  sys := h.sys
  dis := h.dis
  e1 := fun b v e => by
    by_cases q : b = a
    · subst q; rw [upd_same] at e ⊢; exact e
    · rw [upd_ne q] at e ⊢; exact h.e1 b v e
  e2 := fun b v e => by
    have : b ≠ a := fun q => by
      subst q
      rcases h.d12 b with z | z
      · rw [ha] at z; cases z
      · rw [e] at z; cases z
    rw [upd_ne this]; exact h.e2 b v e
  d12 := fun b => by
    by_cases q : b = a
    · subst q
      rcases h.d12 b with z | z
      · rw [ha] at z; cases z
      · exact .inr z
    · rw [upd_ne q]; exact h.d12 b
  n1 := fun b v e => by
    by_cases q : b = a
    · subst q; exact h.n1 _ _ ha
    · rw [upd_ne q] at e; exact h.n1 b v e
  n2 := h.n2
  r1 := hr
  r2 := h.r2
/-- a new object -/
theorem Wd.fresh {R S : Res} {B Fz H : Hp} {a : Addr} {o : HO} (w : Wd S B Fz H) (ha : H a = none) (hr : R.ok B (fun b => if b = a then some o else none)) : Wd (R.star S) B Fz (upd H a o) := by
  obtain ⟨G, g1, g2, g3⟩ := w.res
  refine Opened.wd (G1 := fun b => if b = a then some o else none) (G2 := G) ⟨fun b v e => ?_, fun b v e => ?_, w.sys, w.dis, fun b v e => ?_, fun b v e => ?_, fun b => ?_, fun b v e => ?_, g2, hr, g3⟩
  · rw [upd_ne (ne_of_none (w.ex _ _ e) ha)]; exact w.ex _ _ e
  · rw [upd_ne (ne_of_none (w.fz _ _ e) ha)]; exact w.fz _ _ e
  · by_cases q : b = a
    · subst q
      rw [if_pos rfl] at e
      rw [upd_same]; exact e
    · rw [if_neg q] at e; cases e
  · rw [upd_ne (ne_of_none (g1 _ _ e) ha)]; exact g1 _ _ e
  · by_cases q : b = a
    · subst q; exact .inr (g1.free ha)
    · exact .inl (if_neg q)
  · by_cases q : b = a
    · subst q; exact ⟨w.ex.free ha, w.fz.free ha⟩
    · rw [if_neg q] at e; cases e
/-- an object goes to the data -/
theorem Opened.freeze {R S : Res} {B Fz H G1 G2 : Hp} {a : Addr} {u : HO} (h : Opened R S B Fz H G1 G2) (ha : G1 a = some u) : Ex B (upd B a u) ∧ Wd S (upd B a u) Fz H := by
  have nb := h.n1 _ _ ha
  have e : Ex B (upd B a u) := Ex.new nb.1
  refine ⟨e, fun b v q => ?_, h.fz, h.sys, fun b v q => ?_, G2, h.e2, fun b v q => ⟨?_, (h.n2 b v q).2⟩, S.mono _ _ _ e h.r2⟩
  · by_cases z : b = a
    · subst z; rw [upd_same] at q; cases q; exact h.e1 _ _ ha
    · rw [upd_ne z] at q; exact h.ex _ _ q
  · have : b ≠ a := fun z => by subst z; rw [nb.2] at q; cases q
    rw [upd_ne this]; exact h.dis _ _ q
  · have : b ≠ a := fun z => by
      subst z
      rcases h.d12 b with y | y
      · rw [ha] at y; cases y
      · rw [q] at y; cases y
    rw [upd_ne this]; exact (h.n2 b v q).1
/-! ### the objects of the state -/
def eraseL (a : Addr) : List (Addr × D) → List (Addr × D)
  | [] => []
  | (b, d) :: r => if a = b then r else (b, d) :: eraseL a r
def putL (a : Addr) (x : D) : List (Addr × D) → List (Addr × D)
  | [] => []
  | (b, d) :: r => if a = b then (b, x) :: r else (b, d) :: putL a x r
def getL (a : Addr) : List (Addr × D) → Option D
  | [] => none
  | (b, d) :: r => if a = b then some d else getL a r
namespace Ds
def get (s : Ds) (a : Addr) : Option D := getL a s.ob
def put (s : Ds) (a : Addr) (d : D) : Ds := { s with ob := putL a d s.ob }
def del (s : Ds) (a : Addr) : Ds := { s with ob := eraseL a s.ob }
def new (s : Ds) (a : Addr) (d : D) : Ds := { s with ob := (a, d) :: s.ob }
@[simp] theorem get_new {s : Ds} {a : Addr} {d : D} : (s.new a d).get a = some d := if_pos rfl
theorem get_new_ne {s : Ds} {a b : Addr} {d : D} (h : b ≠ a) : (s.new a d).get b = s.get b := if_neg h
@[simp] theorem put_new {s : Ds} {a : Addr} {d e : D} : (s.new a d).put a e = s.new a e := by
  unfold put new putL; simp
@[simp] theorem del_new {s : Ds} {a : Addr} {d : D} : (s.new a d).del a = s := by
  unfold del new eraseL; simp
theorem put_new_ne {s : Ds} {a b : Addr} {d e : D} (h : b ≠ a) : (s.new a d).put b e = (s.put b e).new a d := by
  unfold put new; simp [putL, h]
theorem getL_put {a : Addr} {e : D} : ∀ {l : List (Addr × D)} {d : D}, getL a l = some d → getL a (putL a e l) = some e
  | (b, x) :: r, d, h => by
    unfold getL at h
    unfold putL
    by_cases q : a = b
    · rw [if_pos q]; unfold getL; rw [if_pos q]
    · rw [if_neg q] at h ⊢; unfold getL; rw [if_neg q]; exact getL_put h
theorem get_put {s : Ds} {a : Addr} {d e : D} (h : s.get a = some d) : (s.put a e).get a = some e := getL_put h
theorem getL_put_ne {a b : Addr} {e : D} (hn : b ≠ a) : ∀ {l : List (Addr × D)}, getL b (putL a e l) = getL b l
  | [] => rfl
  | (c, x) :: r => by
    unfold putL
    by_cases q : a = c
    · rw [if_pos q]; unfold getL; subst q; rw [if_neg hn, if_neg hn]
    · rw [if_neg q]; unfold getL; rw [getL_put_ne hn]
theorem get_put_ne {s : Ds} {a b : Addr} {e : D} (h : b ≠ a) : (s.put a e).get b = s.get b := getL_put_ne h
theorem putL_putL {a : Addr} {d e : D} : ∀ l : List (Addr × D), putL a e (putL a d l) = putL a e l
  | [] => rfl
  | (c, x) :: r => by
    by_cases q : a = c
    · simp [putL, q]
    · simp [putL, q, putL_putL r]
@[simp] theorem put_put {s : Ds} {a : Addr} {d e : D} : (s.put a d).put a e = s.put a e := by
  unfold put; simp [putL_putL]
end Ds
theorem pickL {a : Addr} {d : D} : ∀ {l : List (Addr × D)}, getL a l = some d → Rle (obsR M l) ((objR M a d).star (obsR M (eraseL a l)))
  | (b, x) :: r, h => by
    unfold getL at h
    unfold eraseL
    by_cases q : a = b
    · rw [if_pos q] at h ⊢
      cases h; subst q
      exact Rle.refl _
    · rw [if_neg q] at h ⊢
      exact (star_mono (Rle.refl _) (pickL h)).trans star_swap
theorem unpickL {a : Addr} {d e : D} : ∀ {l : List (Addr × D)}, getL a l = some d → Rle ((objR M a e).star (obsR M (eraseL a l))) (obsR M (putL a e l))
  | (b, x) :: r, h => by
    unfold getL at h
    unfold eraseL putL
    by_cases q : a = b
    · rw [if_pos q] at h ⊢
      rw [if_pos q]
      cases h; subst q
      exact Rle.refl _
    · rw [if_neg q] at h ⊢
      rw [if_neg q]
      exact star_swap.trans (star_mono (Rle.refl _) (unpickL h))
theorem pickS {s : Ds} {a : Addr} {d : D} (h : s.get a = some d) : Rle (resOf M s) ((objR M a d).star (resOf M (s.del a))) := (star_mono (Rle.refl _) (pickL h)).trans star_swap
theorem unpickS {s : Ds} {a : Addr} {d e : D} (h : s.get a = some d) : Rle ((objR M a e).star (resOf M (s.del a))) (resOf M (s.put a e)) := star_swap.trans (star_mono (Rle.refl _) (unpickL h))
theorem newS {s : Ds} {a : Addr} {d : D} : Rle ((objR M a d).star (resOf M s)) (resOf M (s.new a d)) := star_swap
/-- an object of the state stands in the heap -/
theorem getS {s : Ds} {a : Addr} {c : Str} {fs : List (Str × D)} {B Fz H : Hp} (w : Wd (resOf M s) B Fz H) (h : s.get a = some (.obj c fs)) : ∃ C dx vs, M.mg c = some (.ref C) ∧ H a = some (.ins C dx vs) ∧ Dpf M B vs fs := by
  obtain ⟨G1, G2, o⟩ := (w.weak (pickS h)).opened
  obtain ⟨C, dx, vs, h1, h2, h3⟩ := o.r1
  exact ⟨C, dx, vs, h1, o.e1 _ _ h2, h3⟩
theorem getS_free {s : Ds} {a : Addr} {B Fz H : Hp} (w : Wd (resOf M s) B Fz H) (h : H a = none) : s.get a = none := by
  cases q : s.get a with
  | none => rfl
  | some d =>
    obtain ⟨G1, G2, o⟩ := (w.weak (pickS q)).opened
    have r := o.r1
    cases d <;> first | exact r.elim | skip
    · obtain ⟨vs, h2, _⟩ := r; rw [o.e1 _ _ h2] at h; cases h
    · obtain ⟨C, dx, vs, _, h2, _⟩ := r; rw [o.e1 _ _ h2] at h; cases h
    · rename_i d
      cases d <;> first | exact r.elim | skip
      obtain ⟨ps, h2, _⟩ := r; rw [o.e1 _ _ h2] at h; cases h
namespace Out
/-- a new address -/
def fresh {α : Type} (s : Ds) (f : Addr → Out α) : Out α := ⟨fun Q E => ∀ a, s.get a = none → (f a).post Q E, fun h1 h2 q a z => (f a).mono h1 h2 (q a z)⟩
theorem post_fresh {α : Type} {s : Ds} {f : Addr → Out α} {Q : α → Ds → Prop} {E : Str → List (Str × D) → Ds → Prop} : (fresh s f).post Q E ↔ ∀ a, s.get a = none → (f a).post Q E := Iff.rfl
theorem free_ex (s : Ds) : ∃ a, s.get a = none := by
  have go : ∀ l : List (Addr × D), ∃ n, ∀ a, n ≤ a → getL a l = none := by
    intro l
    induction l with
    | nil => exact ⟨0, fun _ _ => rfl⟩
    | cons p r ih =>
      obtain ⟨n, hn⟩ := ih
      refine ⟨max n (p.1 + 1), fun a ha => ?_⟩
      unfold getL
      have h1 : n ≤ a := Nat.le_trans (Nat.le_max_left _ _) ha
      have h2 : p.1 + 1 ≤ a := Nat.le_trans (Nat.le_max_right _ _) ha
      rw [if_neg (fun z => Nat.lt_irrefl _ (Nat.lt_of_lt_of_le (Nat.lt_of_succ_le h2) (Nat.le_of_eq z)))]
      exact hn a h1
  obtain ⟨n, hn⟩ := go s.ob
  exact ⟨n, hn n (Nat.le_refl n)⟩
theorem fresh_const {α : Type} (s : Ds) (x : Out α) : (fresh s fun _ => x) = x := ext' fun Q E => ⟨fun h => let ⟨a, e⟩ := free_ex s; h a e, fun h _ _ => h⟩
theorem fresh_congr {α : Type} {s : Ds} {f g : Addr → Out α} (h : ∀ a, s.get a = none → f a = g a) : fresh s f = fresh s g := ext' fun Q E => ⟨fun q a z => h a z ▸ q a z, fun q a z => (h a z).symm ▸ q a z⟩
theorem fresh_eq {α : Type} {s : Ds} {f : Addr → Out α} {x : Out α} (h : ∀ a, s.get a = none → f a = x) : fresh s f = x := (fresh_congr h).trans (fresh_const s x)
end Out
/-! ### fields -/
def putD (f : Str) (v : D) : List (Str × D) → List (Str × D)
  | [] => [(f, v)]
  | (g, x) :: r => if g = f then (g, v) :: r else (g, x) :: putD f v r
theorem Dpf.put {B : Hp} {f : Str} {v : V} {d : D} (h : Dp M B v d) : ∀ {vs : List (Str × V)} {fs : List (Str × D)}, Dpf M B vs fs → Dpf M B (putF f v vs) (putD f d fs)
  | _, _, .nil => .cons h .nil
  | _, _, @Dpf.cons _ _ k _ _ _ _ h0 t => by
    unfold putF putD
    by_cases q : k = f
    · rw [if_pos q, if_pos q]; exact .cons h t
    · rw [if_neg q, if_neg q]; exact .cons h0 (Dpf.put h t)
theorem Dpf.length {B : Hp} : ∀ {vs : List (Str × V)} {fs : List (Str × D)}, Dpf M B vs fs → vs.length = fs.length
  | _, _, .nil => rfl
  | _, _, .cons _ t => by simp [Dpf.length t]
theorem Dpf.lookN {B : Hp} {n : Str} : ∀ {vs : List (Str × V)} {fs : List (Str × D)}, Dpf M B vs fs → fs.lookup n = none → vs.lookup n = none
  | _, _, .nil, _ => rfl
  | _, _, @Dpf.cons _ _ k _ _ _ _ _ t, h => by
    rw [List.lookup_cons] at h ⊢
    split at h
    · cases h
    · exact Dpf.lookN t h
/-- what of the text a class must have: A tells of a class and a name that it is a field -/
def AttO (K : PySem.W.Frag) (mg : Str → Option Value) (A : Str → Str → Bool) : Prop := ∀ c n C, A c n = true → mg c = some (.ref C) → Cls K C ∧ NoAttr K C n
/-- the class and the fields of an instance -/
def insD (s : Ds) : D → Option (Str × List (Str × D))
  | .obj c fs => some (c, fs)
  | .ref a => match s.get a with
    | some (.obj c fs) => some (c, fs)
    | _ => none
  | _ => none
theorem insD_at {s : Ds} {v : V} {d : D} {c : Str} {fs : List (Str × D)} {B Fz H : Hp} (w : Wd (resOf M s) B Fz H) (hd : Dp M B v d) (h : insD s d = some (c, fs)) : ∃ a C dx vs, v = .ref a ∧ M.mg c = some (.ref C) ∧ H a = some (.ins C dx vs) ∧ Dpf M B vs fs := by
  cases d <;> first | (cases h; done) | skip
  · cases h
    cases hd with
    | obj h1 h2 h3 => exact ⟨_, _, _, _, rfl, h1, w.ex _ _ h2, h3⟩
  · rename_i a
    cases hd
    unfold insD at h
    dsimp only at h
    split at h
    · rename_i c' fs' e
      cases h
      obtain ⟨C, dx, vs, h1, h2, h3⟩ := getS w e
      exact ⟨_, _, _, _, rfl, h1, h2, h3⟩
    · cases h
def fldD (A : Str → Str → Bool) (n : Str) (s : Ds) (d : D) : Option D := match insD s d with
  | some (c, fs) => if A c n = true then fs.lookup n else none
  | none => none
def mFld (A : Str → Str → Bool) (n : Str) (m : FE) : FE := fun ρ s => (m ρ s).bind fun d s => optO (fldD A n s d) s
section
variable {X : Cx} {W : WX} {a b c e e2 o value tg : Expr} {es rest : List Expr} {ma mb mc m mo mv : FE} {mr : FA} {pos pos' : Pos}
theorem me_fld {A : Str → Str → Bool} {n : Str} (hA : AttO X.K X.mg A) (he : ME X W e m) (hb : attributeBase e n X.env (eval e X.env) = eval e X.env := by rfl) : ME X W (.Attribute e n pos) (mFld A n m) :=
  (pe_fld he hb).imp fun σ H Q ⟨R, Fz, B, ρ, Qd, E, w, sl, ⟨s, hs, q⟩, k, x⟩ => by
    subst hs
    refine ⟨_, Fz, B, ρ, fun R d => ∃ s, R = resOf X.md s ∧ ∃ z, fldD A n s d = some z ∧ Qd R z, E, w, sl, ⟨s, rfl, Out.post_mono (fun d s1 h1 => ?_) (fun _ _ _ z => z) _ q⟩, fun R v H1 B1 d e1 w1 h1 ⟨s1, hR, z, hz, q1⟩ => ?_, x⟩
    · obtain ⟨z, hz, q⟩ := post_opt h1
      exact ⟨s1, rfl, z, hz, q⟩
    · subst hR
      unfold fldD at hz
      split at hz
      · rename_i c fs hi
        split at hz
        · rename_i hc
          obtain ⟨a, C, dx, vs, rfl, hm, hH, hf⟩ := insD_at w1 h1 hi
          obtain ⟨hcl, hno⟩ := hA _ _ C hc hm
          obtain ⟨u, hu, hd⟩ := hf.look hz
          exact ⟨a, C, dx, vs, u, rfl, hH, hcl, hno, hu, k _ u H1 B1 z e1 w1 hd q1⟩
        · cases hz
      · cases hz
/-- o.f = e -/
def setD (A : Str → Str → Bool) (n : Str) (y : D) (s : Ds) : D → Option Ds
  | .ref a => match s.get a with
    | some (.obj c fs) => if A c n = true ∧ fs.length < 1000 then some (s.put a (.obj c (putD n y fs))) else none
    | _ => none
  | _ => none
def mSetF (A : Str → Str → Bool) (n : Str) (mo mv : FE) : FX := fun ρ s => stE mv ρ s fun y s => stE mo ρ s fun x s => match setD A n y s x with
  | some s' => .ok (.nx ρ) s'
  | none => .err
theorem ms_fld {A : Str → Str → Bool} {n : Str} (hA : AttO X.K X.mg A) (ho : ME X W o mo) (hv : ME X W value mv) (hs : swapsWith value (some (.Attribute o n pos')) pos.line X.env = pure false := by rfl) : MS X W (.Assign [.Attribute o n pos'] value pos) (mSetF A n mo mv) :=
  (ps_fld ho hv hs).imp fun En σ H ⟨R, F0, B, Fz, ρ, De, sr, ⟨s, hs, q⟩, x⟩ => by
    subst hs
    refine ⟨_, Fz, B, ρ, _, _, sr.wd, sr.sl, stE_cps (Q := fun R y => ∃ s1, R = resOf X.md s1 ∧ postS X.md De (stE mo ρ s1 fun x s => match setD A n y s x with | some s' => .ok (.nx ρ) s' | none => .err)) q (fun y s1 h => ⟨s1, rfl, h⟩), fun R1 vy H1 B1 y e1 w1 hy ⟨s1, hR1, q1⟩ => ?_, x.xl sr⟩
    subst hR1
    have sr1 := sr.grow e1 w1
    have x1 := x.mono e1
    refine ⟨_, Fz, B1, ρ, _, _, sr1.wd, sr1.sl, stE_cps (Q := fun R z => ∃ s2, R = resOf X.md s2 ∧ postS X.md De (match setD A n y s2 z with | some s' => .ok (.nx ρ) s' | none => .err)) q1 (fun z s2 h => ⟨s2, rfl, h⟩), fun R2 vo H2 B2 z e2 w2 hz ⟨s2, hR2, q2⟩ => ?_, x1.xl sr1⟩
    subst hR2
    cases qs : setD A n y s2 z with
    | none => rw [qs] at q2; exact q2.elim
    | some s' =>
      rw [qs] at q2
      obtain ⟨a, rfl⟩ : ∃ a, z = .ref a := by cases z <;> first | exact ⟨_, rfl⟩ | cases qs
      cases hz
      unfold setD at qs
      dsimp only at qs
      split at qs
      · rename_i c fs hg
        split at qs
        · rename_i hc
          cases qs
          obtain ⟨G1, G2, op⟩ := (w2.weak (pickS hg)).opened
          obtain ⟨C, dx, vs, hm, hG, hf⟩ := op.r1
          obtain ⟨hcl, hno⟩ := hA _ _ C hc.1 hm
          refine ⟨a, C, dx, vs, rfl, op.e1 _ _ hG, hcl, hno, by rw [hf.length]; exact hc.2, ?_⟩
          have op2 := op.turn (R' := objR X.md a (.obj c (putD n y fs))) (o := .ins C dx (putF n vy vs)) hG ⟨C, dx, _, hm, upd_same, hf.put (hy.mono e2)⟩
          have sr2 := sr1.grow e2 (op2.wd.weak (unpickS hg))
          exact x1.nx _ _ _ _ _ _ e2 sr2 q2
        · cases qs
      · cases qs
/-! ### methods -/
def tMethS (C : Addr) (m : Str) (sp : Sp) (E : L2.St → XK) (ta : TE) (t : TA) : TE := fun σ H Q => ta σ H fun x H1 => ∃ a dx fs, x = .ref a ∧ H1 a = some (.ins C dx fs) ∧ fs.lookup m = none ∧ t σ H1 fun vs H2 => sp (x :: vs) H2 Q (E σ)
variable {CX : CXT} {k : Nat} {f C : Addr} {fd : FuncData} {ps : List Str} {sp : Sp} {E : L2.St → XK} {x mn : Str} {p apos : Pos} {ta : TE} {t : TA}
theorem pe_methG {pl : Sem Bool} (he : PE X o ta) (c : Cls X.K C) (hm : Meth X.K C mn f) (F : FnG X.prog X.w X.K X.mg X.base CX k f fd ps sp) (hr : Room k X.A) (hgd : X.A.guards = some []) (hb : Binds X.K fd ps []) (hx : ∀ σ, PassesAt CX X σ (E σ)) (ha : PA X (e :: es) t)
    (hst : starEach (e :: es) X.env = (false, eval e X.env) :: starEach es X.env) (hpl : (backTo pos (starEach es X.env)).any (·.1) = false)
    (ht : eval (.Call (.Attribute o mn apos) (e :: es) [] pos) X.env = (do let ov ← eval o X.env; standAt apos.atName; let (f, first) ← holding [ov] (getMethod ov mn pl); callWith pos f first (backTo pos (starEach (e :: es) X.env)) (backToKw pos (keywordEach [] X.env)))) :
    PE X (.Call (.Attribute o mn apos) (e :: es) [] pos) (tMethS C mn sp E ta t) := ⟨fun pins s σ H Q I h => by
  refine PySem.W.methodCall_KW (pl := pl) (thn (he.run pins s σ H _ I h) fun u s1 ⟨x, H1, I1, rx, a, dx, fs, ex, ea, l, q⟩ => ?_) ht
  subst ex
  cases (show u = Value.ref a from rx)
  exact getmeth_ok I1 ea c hm l (PySem.W.callWith_K (first := [.ref a]) (h₀ := X.base) I.ok.mod.kin hm.kp (thn (ha.run pos pins s1 σ H1 _ I1 q) fun us s2 ⟨vs, H2, I2, r, q2⟩ => ⟨I2.kIn, run_g (us := .ref a :: us) (vs := .ref a :: vs) F hr hgd hb (hx σ) I2 (.cons rfl r) q2⟩) hst hpl)⟩
theorem pe_methG0 {pl : Sem Bool} (he : PE X o ta) (c : Cls X.K C) (hm : Meth X.K C mn f) (F : FnG X.prog X.w X.K X.mg X.base CX k f fd ps sp) (hr : Room k X.A) (hgd : X.A.guards = some []) (hb : Binds X.K fd ps []) (hx : ∀ σ, PassesAt CX X σ (E σ))
    (ht : eval (.Call (.Attribute o mn apos) [] [] pos) X.env = (do let ov ← eval o X.env; standAt apos.atName; let (f, first) ← holding [ov] (getMethod ov mn pl); callWith pos f first (backTo pos (starEach [] X.env)) (backToKw pos (keywordEach [] X.env)))) :
    PE X (.Call (.Attribute o mn apos) [] [] pos) (tMethS C mn sp E ta tNil) := ⟨fun pins s σ H Q I h => by
  refine PySem.W.methodCall_KW (pl := pl) (thn (he.run pins s σ H _ I h) fun u s1 ⟨x, H1, I1, rx, a, dx, fs, ex, ea, l, q⟩ => ?_) ht
  subst ex
  cases (show u = Value.ref a from rx)
  exact getmeth_ok I1 ea c hm l (PySem.W.callWith_K0 (first := [.ref a]) I1.kIn hm.kp (run_g (us := [.ref a]) (vs := [.ref a]) F hr hgd hb (hx σ) I1 (.cons rfl .nil) q))⟩
end
/-- a method of the class c keeps a promise -/
def OkM (P : Program) (w : World) (K : PySem.W.Frag) (mg : Str → Option Value) (base : Heap) (k : Nat) (c m : Str) (ps : List Str) (sp : DSp) : Prop :=
  ∃ (C f : Addr) (fd : FuncData), mg c = some (.ref C) ∧ Cls K C ∧ Meth K C m f ∧ Binds K fd ps [] ∧ FnG P w K mg base (L2.CX P w) k f fd ps (spL ⟨K, mg, w⟩ sp)
def metD (c m : Str) (s : Ds) (d : D) : Bool := match insD s d with
  | some (c', fs) => decide (c' = c) && (fs.lookup m).isNone
  | none => false
def mMeth (c m : Str) (f : FF) (mo : FE) (mr : FA) : FE := fun ρ s => (mo ρ s).bind fun x s => if metD c m s x = true then (mr ρ s).bind fun ds s => f (x :: ds) s else .err
section
variable {X : Cx} {W : WX} {a b c e e2 o value tg : Expr} {es rest : List Expr} {ma mb mc m mo mv : FE} {mr : FA} {pos pos' apos : Pos}
theorem meth_lift {c mn : Str} {C : Addr} {f : FF} (hC : X.mg c = some (.ref C)) {σ : L2.St} {H : Hp} {Q : VK} (h : lift X.md W (cps X.md (mMeth c mn f mo mr)) σ H Q) : tMethS C mn (spL X.md (spF X.md f)) (WE W) (lift X.md W (cps X.md mo)) (liftA X.md W (cps X.md mr)) σ H Q := by
  obtain ⟨R, Fz, B, ρ, Qd, E, w, sl, ⟨s, hs, q⟩, k, x⟩ := h
  subst hs
  refine ⟨_, Fz, B, ρ, fun R d => ∃ s, R = resOf X.md s ∧ metD c mn s d = true ∧ ((mr ρ s).bind fun ds s => f (d :: ds) s).post (fun d s' => Qd (resOf X.md s') d) (fun c fs s' => E (resOf X.md s') c fs), E, w, sl, ⟨s, rfl, Out.post_mono (fun d s1 h1 => ?_) (fun _ _ _ z => z) _ q⟩, fun R v H1 B1 d e1 w1 h1 ⟨s1, hR, hd, q1⟩ => ?_, x⟩
  · dsimp only at h1
    by_cases z : metD c mn s1 d = true
    · rw [if_pos z] at h1; exact ⟨s1, rfl, z, h1⟩
    · rw [if_neg z] at h1; exact h1.elim
  · subst hR
    unfold metD at hd
    split at hd
    · rename_i c' fs hi
      obtain ⟨hc, hn⟩ := Bool.and_eq_true_iff.mp hd
      have hc := of_decide_eq_true hc
      subst hc
      obtain ⟨a, C', dx, vs, rfl, hm, hH, hf⟩ := insD_at w1 h1 hi
      have eC : C' = C := by
        have := hm.symm.trans hC
        cases this; rfl
      subst eC
      refine ⟨a, dx, vs, rfl, hH, hf.lookN (by simpa using hn), _, Fz, B1, ρ, fun R ds => ∃ s, R = resOf X.md s ∧ (f (d :: ds) s).post (fun d s' => Qd (resOf X.md s') d) (fun c fs s' => E (resOf X.md s') c fs), E, w1, sl.mono e1, ⟨s1, rfl, Out.post_mono (fun ds s2 h2 => ⟨s2, rfl, h2⟩) (fun _ _ _ z => z) _ q1⟩, fun R2 us H2 B2 ds e2 w2 h2 ⟨s2, hR2, q2⟩ => ?_, x.mono e1⟩
      subst hR2
      exact ⟨_, Fz, B2, d :: ds, Qd, E, w2, .cons (h1.mono e2) h2, ⟨s2, rfl, q2⟩, k.mono (e1.trans e2), fun R c C dd H' B' us fs m e3 w3 hd hf he => x R c C dd H' B' us fs m ((e1.trans e2).trans e3) w3 hd hf he⟩
    · cases hd
theorem me_meth {k j : Nat} {c mn : Str} {ps : List Str} {f : FF} {pl : Sem Bool} (h : OkM X.prog X.w X.K X.mg X.base j c mn ps (spF X.md f)) (hr : Room k X.A) (hj : j ≤ k) (hgd : X.A.guards = some []) (tk : Takes X W) (ho : ME X W o mo) (ha : MA X W (e :: es) mr)
    (hst : starEach (e :: es) X.env = (false, eval e X.env) :: starEach es X.env := by rfl) (hpl : (backTo pos (starEach es X.env)).any (·.1) = false := by rfl)
    (ht : eval (.Call (.Attribute o mn apos) (e :: es) [] pos) X.env = (do let ov ← eval o X.env; standAt apos.atName; let (f, first) ← holding [ov] (getMethod ov mn pl); callWith pos f first (backTo pos (starEach (e :: es) X.env)) (backToKw pos (keywordEach [] X.env))) := by rfl) :
    ME X W (.Call (.Attribute o mn apos) (e :: es) [] pos) (mMeth c mn f mo mr) :=
  let ⟨_, _, _, hC, hcl, hm, hb, F⟩ := h
  (pe_methG (pl := pl) ho hcl hm F (hr.mono hj) hgd hb (fun σ => passAt tk σ) ha hst hpl ht).imp fun _ _ _ h => meth_lift hC h
theorem me_meth0 {k j : Nat} {c mn : Str} {ps : List Str} {f : FF} {pl : Sem Bool} (h : OkM X.prog X.w X.K X.mg X.base j c mn ps (spF X.md f)) (hr : Room k X.A) (hj : j ≤ k) (hgd : X.A.guards = some []) (tk : Takes X W) (ho : ME X W o mo)
    (ht : eval (.Call (.Attribute o mn apos) [] [] pos) X.env = (do let ov ← eval o X.env; standAt apos.atName; let (f, first) ← holding [ov] (getMethod ov mn pl); callWith pos f first (backTo pos (starEach [] X.env)) (backToKw pos (keywordEach [] X.env))) := by rfl) :
    ME X W (.Call (.Attribute o mn apos) [] [] pos) (mMeth c mn f mo mNil) :=
  let ⟨_, _, _, hC, hcl, hm, hb, F⟩ := h
  (pe_methG0 (pl := pl) ho hcl hm F (hr.mono hj) hgd hb (fun σ => passAt tk σ) ht).imp fun σ H Q h => by
    obtain ⟨R, Fz, B, ρ, Qd, E, w, sl, q, k, x⟩ := meth_lift (mr := mNil) hC h
    refine ⟨R, Fz, B, ρ, Qd, E, w, sl, q, fun R v H1 B1 d e1 w1 h1 q1 => ?_, x⟩
    obtain ⟨a, dx, vs, h2, h3, h4, R2, Fz2, B2, ρ2, Qd2, E2, w2, sl2, ⟨s2, hs2, q2⟩, k2, x2⟩ := k R v H1 B1 d e1 w1 h1 q1
    exact ⟨a, dx, vs, h2, h3, h4, k2 _ [] H1 B2 [] (Ex.refl _) (hs2 ▸ w2) .nil q2⟩
end
end DL

set_option Elab.async false
set_option linter.all false
set_option maxRecDepth 100000
set_option maxHeartbeats 1000000
namespace DL
open PySem L2 PySem.Spec PyProof.Rows
variable {M : Md}
/-! ### new instances -/
theorem guards_make {A : Around} {ar : Args} : (A.under (.builtin "type.__call__" ar)).guards = A.guards := by
  show pushGuards (Code.guards (.builtin "type.__call__" ar)) A.guards = A.guards
  have e : Code.guards (.builtin "type.__call__" ar) = [] := by rfl
  rw [e]
  cases A.guards <;> rfl
def tMakeS (C : Addr) (sp : Sp) (E : L2.St → XK) (t : TA) : TE := fun σ H Q => t σ H fun vs H1 => ∀ x dx, H1 x = none → H1 dx = none → dx ≠ x → sp (.ref x :: vs) (upd (upd H1 dx (.own x)) x (.ins C dx [])) (fun v H2 => v = .non ∧ Q (.ref x) H2) (E σ)
section
variable {X : Cx} {W : WX} {e : Expr} {es : List Expr} {pos : Pos} {CX : CXT} {k : Nat} {f C : Addr} {fd : FuncData} {ps : List Str} {sp : Sp} {E : L2.St → XK} {x : Str} {p : Pos} {t : TA}
/-- how a call's arguments bind -/
def BindK (K : PySem.W.Frag) (fd : FuncData) (ps : List Str) (n : Nat) (ks : List Str) (g : List Value → List Value) : Prop := ∀ (s : Shared) (us ws : List Value), us.length = n → ws.length = ks.length → K.In s.heap → BindsTo s fd ⟨us, ks.zip ws⟩ (ps.zip (g (us ++ ws)))
theorem run_makeG {E : XK} {pins : List (Addr × Obj)} {σ : L2.St} {H : Hp} {s : Shared} {Q : VK} {us : List Value} {kw : List (Str × Value)} {vs : List V} {zs : List Value} (M : Mk X.K C f) (F : FnG X.prog X.w X.K X.mg X.base CX k f fd ps sp) (hr : Room (k + 1) X.A) (hgd : X.A.guards = some [])
    (hb : ∀ (s : Shared) (q : Value), X.K.In s.heap → BindsTo s fd ⟨q :: us, kw⟩ (ps.zip (q :: zs))) (hx : PassesAt CX X σ E) (I : Inv X pins σ H s) (r : Vals vs zs)
    (h : ∀ x dx, H x = none → H dx = none → dx ≠ x → sp (.ref x :: vs) (upd (upd H dx (.own x)) x (.ins C dx [])) (fun v H2 => v = .non ∧ Q (.ref x) H2) E) : wpAny (model X.prog X.w) X.A (call (.ref C) us kw) (EP X pins σ Q) X.xe s := by
  have hq := h (s.heap.objs.size + 1) s.heap.objs.size (I.hok.fresh (Nat.le_succ _)) (I.hok.fresh (Nat.le_refl _)) (Nat.ne_of_lt (Nat.lt_succ_self _))
  have I2 := Inv.made (C := C) I
  refine wpAny_call (make_map (f := f) I.kIn M.makes M.init (beq_iff_eq.mp M.fn) (codeAny_mono (F.go _ X.stack _ _ ⟨.ref (s.heap.objs.size + 1) :: us, kw⟩ (.ref (s.heap.objs.size + 1) :: zs) _ _ E (hr.make C us kw) (by rw [guards_make]; exact hgd) (I2.env0.make C us kw) (hb _ _ I2.kIn) (Paired.cons (show L2.RelV (V.ref (s.heap.objs.size + 1)) (Value.ref (s.heap.objs.size + 1)) from rfl) r) hq) fun z s' hq' => ?_))
  match z, hq' with
  | .error e, hq' => exact hx pins _ _ e s' I2 hq'
  | .ok (.ret u), hq' =>
    obtain ⟨v, H', I3, rv, ev, q3⟩ := I2.after hq'
    subst ev
    exact ⟨rv, V.ref (s.heap.objs.size + 1), H', I3, rfl, q3⟩
  | .ok .next, hq' => exact hq'.elim
  | .ok .brk, hq' => exact hq'.elim
  | .ok .cont, hq' => exact hq'.elim
theorem pe_makeG (M : Mk X.K C f) (F : FnG X.prog X.w X.K X.mg X.base CX k f fd ps sp) (hr : Room (k + 1) X.A) (hgd : X.A.guards = some []) (hg : Gl X x) (hm : X.mg x = some (.ref C)) (hb : Binds X.K fd ps []) (hx : ∀ σ, PassesAt CX X σ (E σ)) (ha : PA X (e :: es) t)
    (hdb : (x == ("__debug__" : Str)) = false) (he : starEach (e :: es) X.env = (false, eval e X.env) :: starEach es X.env) (hpl : (backTo pos (starEach es X.env)).any (·.1) = false) : PE X (.Call (.Name x p) (e :: es) [] pos) (tMakeS C sp E t) :=
  ⟨fun pins s σ H Q I h => wpAny_Call_Name_kw (ld_glob I hg hm (PySem.W.callWith_K (h₀ := X.base) I.ok.mod.kin M.kp (thn (ha.run pos pins s σ H _ I h) fun us s1 ⟨vs, H1, I1, r, q⟩ => ⟨I1.kIn, by
    have hl : (vs.length + 1) = ps.length := by
      have h0 := q (s1.heap.objs.size + 1) s1.heap.objs.size (I1.hok.fresh (Nat.le_succ _)) (I1.hok.fresh (Nat.le_refl _)) (Nat.ne_of_lt (Nat.lt_succ_self _))
      exact F.len _ _ _ _ h0
    refine run_makeG (zs := us) M F hr hgd (fun s q hk => ?_) (hx σ) I1 r q
    have b := hb s (q :: us) hk (by rw [List.append_nil, List.length_cons, ← r.length]; exact hl)
    rw [List.append_nil] at b
    exact b⟩) he hpl) hdb)⟩
end
theorem delS {s : Ds} {a : Addr} {B Fz H : Hp} (w : Wd (resOf M s) B Fz H) : Wd (resOf M (s.del a)) B Fz H := by
  cases q : s.get a with
  | some d => exact (w.weak (pickS q)).drop
  | none =>
    have go : ∀ l : List (Addr × D), getL a l = none → eraseL a l = l := by
      intro l
      induction l with
      | nil => intro _; rfl
      | cons p r ih =>
        intro h
        unfold getL at h
        unfold eraseL
        by_cases z : a = p.1
        · rw [if_pos z] at h; cases h
        · rw [if_neg z] at h ⊢; rw [ih h]
    have e : s.del a = s := by
      unfold Ds.del
      rw [go _ q]
    rw [e]; exact w
/-- C(..): an object that changes -/
def mkO (c : Str) (f : FF) : FF := fun ds s => .fresh s fun a => (f (.ref a :: ds) (s.new a (.obj c []))).bind2 (fun c' fs s' => .exc c' fs (s'.del a)) fun d s' => match d with
  | .non => .ok (.ref a) s'
  | _ => .err
/-- C(..): an object that changes no more -/
def mkP (c : Str) (f : FF) : FF := fun ds s => .fresh s fun a => (f (.ref a :: ds) (s.new a (.obj c []))).bind2 (fun c' fs s' => .exc c' fs (s'.del a)) fun d s' => match d, s'.get a with
  | .non, some (.obj c' fs) => .ok (.obj c' fs) (s'.del a)
  | _, _ => .err
/-- the maker of a class -/
def OkC (P : Program) (w : World) (K : PySem.W.Frag) (mg : Str → Option Value) (base : Heap) (k : Nat) (c : Str) (ps : List Str) (sp : DSp) : Prop :=
  ∃ (C f : Addr) (fd : FuncData), mg c = some (.ref C) ∧ Mk K C f ∧ Binds K fd ps [] ∧ FnG P w K mg base (L2.CX P w) k f fd ps (spL ⟨K, mg, w⟩ sp)
section
variable {X : Cx} {W : WX} {e : Expr} {es : List Expr} {pos : Pos} {mr : FA}
/-- what both makers ask -/
theorem make_lift {c : Str} {C : Addr} {f : FF} {T : FF} (hC : X.mg c = some (.ref C)) (hT : ∀ (ds : List D) (s : Ds) (Qd : DQ) (E : DX), (T ds s).post (fun d s' => Qd (resOf X.md s') d) (fun c fs s' => E (resOf X.md s') c fs) → ∀ (x : Addr), s.get x = none →
      ∃ (Q1 : D → Ds → Prop), (f (.ref x :: ds) (s.new x (.obj c []))).post Q1 (fun c fs s' => E (resOf X.md (s'.del x)) c fs) ∧ ∀ (d : D) (s' : Ds) (B Fz H : Hp), Q1 d s' → Wd (resOf X.md s') B Fz H → d = .non ∧ ∃ d' B' R', Ex B B' ∧ Wd R' B' Fz H ∧ Dp X.md B' (.ref x) d' ∧ Qd R' d')
    {σ : L2.St} {H : Hp} {Q : VK} (h : lift X.md W (cps X.md (mCall T mr)) σ H Q) : tMakeS C (spL X.md (spF X.md f)) (WE W) (liftA X.md W (cps X.md mr)) σ H Q := by
  obtain ⟨R, Fz, B, ρ, Qd, E, w, sl, ⟨s, hs, q⟩, k, x⟩ := h
  subst hs
  refine ⟨_, Fz, B, ρ, fun R ds => ∃ s, R = resOf X.md s ∧ (T ds s).post (fun d s' => Qd (resOf X.md s') d) (fun c fs s' => E (resOf X.md s') c fs), E, w, sl, ⟨s, rfl, Out.post_mono (fun ds s2 h2 => ⟨s2, rfl, h2⟩) (fun _ _ _ z => z) _ q⟩, fun R1 us H1 B1 ds e1 w1 h1 ⟨s1, hR1, q1⟩ => ?_, x⟩
  subst hR1
  intro y dx hy hdx ne
  obtain ⟨Q1, p1, p2⟩ := hT ds s1 Qd E q1 y (getS_free w1 hy)
  have w2 := w1.junk (o := .own y) hdx
  have hy2 : (upd H1 dx (.own y)) y = none := by rw [upd_ne (Ne.symm ne)]; exact hy
  have w3 : Wd ((objR X.md y (.obj c [])).star (resOf X.md s1)) B1 Fz (upd (upd H1 dx (.own y)) y (.ins C dx [])) := w2.fresh hy2 ⟨C, dx, [], hC, if_pos rfl, .nil⟩
  refine ⟨_, Fz, B1, .ref y :: ds, fun R d => ∃ s', R = resOf X.md s' ∧ Q1 d s', fun R c fs => ∃ s', R = resOf X.md s' ∧ E (resOf X.md (s'.del y)) c fs, w3.weak newS, .cons (.ref y) h1, ⟨s1.new y (.obj c []), rfl, Out.post_mono (fun d s' z => ⟨s', rfl, z⟩) (fun c fs s' z => ⟨s', rfl, z⟩) _ p1⟩, ?_, ?_⟩
  · rintro R2 v H2 B2 d e2 w4 h4 ⟨s', rfl, z⟩
    obtain ⟨rfl, d', B', R', e3, w5, h5, q5⟩ := p2 d s' B2 Fz H2 z w4
    exact ⟨h4.ofNon, k R' _ H2 B' d' ((e1.trans e2).trans e3) w5 h5 q5⟩
  · rintro R2 c' C' dd H' B' us' fs m e2 w4 hd hf ⟨s', rfl, z⟩
    exact x _ c' C' dd H' B' us' fs m (e1.trans e2) (delS w4) hd hf z
theorem me_mkO {k j : Nat} {c : Str} {ps : List Str} {f : FF} {p : Pos} (h : OkC X.prog X.w X.K X.mg X.base j c ps (spF X.md f)) (hr : Room k X.A) (hj : j + 1 ≤ k) (hgd : X.A.guards = some []) (hg : Gl X c) (tk : Takes X W) (ha : MA X W (e :: es) mr)
    (hdb : (c == ("__debug__" : Str)) = false := by decide) (he : starEach (e :: es) X.env = (false, eval e X.env) :: starEach es X.env := by rfl) (hpl : (backTo pos (starEach es X.env)).any (·.1) = false := by rfl) : ME X W (.Call (.Name c p) (e :: es) [] pos) (mCall (mkO c f) mr) :=
  let ⟨_, _, _, hC, hm, hb, F⟩ := h
  (pe_makeG hm F (hr.mono hj) hgd hg hC hb (fun σ => passAt tk σ) ha hdb he hpl).imp fun _ _ _ h => make_lift hC (fun ds s Qd E q y hy => by
    refine ⟨_, Out.post_mono (fun d s' z => z) (fun c fs s' z => z) _ (q y hy), fun d s' B Fz H z w => ?_⟩
    cases d <;> first | exact z.elim | skip
    exact ⟨rfl, _, B, _, Ex.refl B, w, .ref y, z⟩) h
theorem me_mkP {k j : Nat} {c : Str} {ps : List Str} {f : FF} {p : Pos} (h : OkC X.prog X.w X.K X.mg X.base j c ps (spF X.md f)) (hr : Room k X.A) (hj : j + 1 ≤ k) (hgd : X.A.guards = some []) (hg : Gl X c) (tk : Takes X W) (ha : MA X W (e :: es) mr)
    (hdb : (c == ("__debug__" : Str)) = false := by decide) (he : starEach (e :: es) X.env = (false, eval e X.env) :: starEach es X.env := by rfl) (hpl : (backTo pos (starEach es X.env)).any (·.1) = false := by rfl) : ME X W (.Call (.Name c p) (e :: es) [] pos) (mCall (mkP c f) mr) :=
  let ⟨_, _, _, hC, hm, hb, F⟩ := h
  (pe_makeG hm F (hr.mono hj) hgd hg hC hb (fun σ => passAt tk σ) ha hdb he hpl).imp fun _ _ _ h => make_lift hC (fun ds s Qd E q y hy => by
    refine ⟨_, Out.post_mono (fun d s' z => z) (fun c fs s' z => z) _ (q y hy), fun d s' B Fz H z w => ?_⟩
    cases d <;> first | exact z.elim | skip
    refine ⟨rfl, ?_⟩
    dsimp only at z
    cases qg : s'.get y with
    | none => rw [qg] at z; exact z.elim
    | some o =>
      rw [qg] at z
      cases o <;> first | exact z.elim | skip
      rename_i c' fs
      obtain ⟨G1, G2, op⟩ := (w.weak (pickS qg)).opened
      obtain ⟨C', dx, vs, hm', hG, hf⟩ := op.r1
      obtain ⟨e1, w1⟩ := op.freeze hG
      exact ⟨_, _, _, e1, w1, .obj hm' upd_same (hf.mono e1), z⟩) h
end
end DL

set_option Elab.async false
set_option linter.all false
set_option maxRecDepth 100000
set_option maxHeartbeats 1000000
namespace DL
open PySem L2 PySem.Spec PyProof.Rows
variable {M : Md}
/-! ### try with clauses, each with a name or without -/
abbrev Cl := Value × Option Nat × (Addr → Value → Option Addr → TS)
def endsOf (D : Ends) : Option Nat → Ends
  | some i => { nx := fun σ' H' => D.nx (σ'.set i none) H', rt := D.rt, bk := fun σ' H' => D.bk (σ'.set i none) H', ct := fun σ' H' => D.ct (σ'.set i none) H' }
  | none => D
def slotOf (σ : L2.St) (a : Addr) : Option Nat → L2.St
  | some i => σ.set i (some (.ref a))
  | none => σ
def wCl (K : PySem.W.Frag) (Wout : WX) (D : Ends) : List Cl → WX
  | [] => Wout
  | (c, oi, ts) :: r => fun cls d σ H => ∃ b, PySem.W.exmOne K cls c = some b ∧ (b = true → ∀ a, H a = none → ts a cls d (endsOf D oi) (slotOf σ a oi) H) ∧ (b = false → wCl K Wout D r cls d σ H)
inductive ClOk (X : Cx) : List ExceptHandler → List Cl → Prop
  | nil : ClOk X [] []
  | named {x n : Str} {i : Nat} {c : Value} {ts : Addr → Value → Option Addr → TS} {b0 : Stmt} {su : List Stmt} {np pos' : Pos} {hds : List ExceptHandler} {l : List Cl} (hi : X.N[i]? = some n) (hln : X.env.kindOf n = some .local) (hc : Names X x c)
      (hsu : ∀ (a : Addr) (oe : Obj) (cls : Value) (d : Option Addr) (pn : List (Addr × Obj)), Zc cls d oe → (∃ vs, oe.data = .fields vs) → PSs (X.suite a ((a, oe) :: pn)) (b0 :: su) (ts a cls d)) (r : ClOk X hds l) :
      ClOk X (.ExceptHandler (some (.Name x np)) (some n) (b0 :: su) pos' :: hds) ((c, some i, ts) :: l)
  | plain {x : Str} {c : Value} {ts : Addr → Value → Option Addr → TS} {b0 : Stmt} {su : List Stmt} {np pos' : Pos} {hds : List ExceptHandler} {l : List Cl} (hc : Names X x c)
      (hsu : ∀ (a : Addr) (oe : Obj) (cls : Value) (d : Option Addr) (pn : List (Addr × Obj)), Zc cls d oe → (∃ vs, oe.data = .fields vs) → PSs (X.suite a ((a, oe) :: pn)) (b0 :: su) (ts a cls d)) (r : ClOk X hds l) :
      ClOk X (.ExceptHandler (some (.Name x np)) none (b0 :: su) pos' :: hds) ((c, none, ts) :: l)
section
variable {X : Cx} {body : List Stmt} {h0 : ExceptHandler} {hds : List ExceptHandler} {l : List Cl} {pos : Pos} {tb : WX → TS} {Wout : WX}
theorem sp_next {pins : List (Addr × Obj)} {D : Ends} {f : Flow} {xe : Value → Shared → Prop} {s1 : Shared} (ok : X.Ok) (h : SP (X.tr (X.pn ++ pins) xe) [] D f s1) : SP X pins D f s1 := by
  match f, h with
  | .next, ⟨a, b, J, q⟩ => exact ⟨a, b, J.ofTry ok, q⟩
  | .brk, ⟨a, b, J, q⟩ => exact ⟨a, b, J.ofTry ok, q⟩
  | .cont, ⟨a, b, J, q⟩ => exact ⟨a, b, J.ofTry ok, q⟩
  | .ret u, ⟨v, a, b, J, r, q⟩ => exact ⟨v, a, b, J.ofTry ok, r, q⟩
theorem ps_cl (hs : X.stack = X.env :: X.outer) (hf : X.env.frame = some X.env.locals) (hN : X.N.Nodup) (tk : Takes X Wout)
    (hb : ∀ (W : WX) (pn : List (Addr × Obj)) (xe : Value → Shared → Prop), Takes (X.tr pn xe) W → PassesOwn (model X.prog X.w) X.A X.env xe → PSs (X.tr pn xe) body (tb W)) (hh : ClOk X (h0 :: hds) l) : PS X (.Try body (h0 :: hds) [] [] pos) (fun D σ H => tb (wCl X.K Wout D l) D σ H) := ⟨fun pins s σ H D I h => by
  have ok := I.ok
  have hfr : X.A.frames = some (X.env :: X.outer) := by rw [ok.frames, hs]
  refine wpAny_Try_except (wpAny_mono ((hb (wCl X.K Wout D l) (X.pn ++ pins) (fun e t1 => wpAny (model X.prog X.w) X.A (noteFrame e X.env) (fun _ t2 => wpAny (model X.prog X.w) X.A (setFlight e none) (fun _ t3 => wpAny (model X.prog X.w) X.A (handleBy e X.env (h0 :: hds)) (SP X pins D) X.xe t3) X.xe t2) X.xe t1) (fun u s' xx => ?_) PassesOwn.looking).run [] s σ H D (I.toTry _) h) (fun f s1 hsp => ?_) (fun e s1 he => he))
  · obtain ⟨a, B, sI, pins', σ', H', cls, d, rfl, J', nb, up, sky, na, os, ag, w⟩ := xx
    have J : Inv X pins σ' H' sI := J'.ofTry ok
    show wpAny (model X.prog X.w) X.A (noteFrame (.ref a) X.env) _ _ _
    refine Sky.land Zc.steady hfr hf (by rw [← hs]; exact sky) fun h3 fl3 up3 => ?_
    have J3 : Inv X pins σ' H' { s' with heap := h3 } := J.landed nb fl3.1 (up.trans up3) os ag
    obtain ⟨oe3, vs3, he3, hz3, hd3⟩ := fl3.there
    have nfr : a ∉ frs (X.env :: X.outer) := fun hm => by
      obtain ⟨_, o', e', hnf⟩ := fl3.2.2.1.mem hm
      rw [he3] at e'
      cases e'
      exact hnf _ hd3
    have nL : a ≠ X.env.locals := fun z => nfr (List.mem_filterMap.mpr ⟨X.env, List.mem_cons_self, by rw [hf, z]⟩)
    have nF : a ∉ X.fs := fun hm => let ⟨e, he, q⟩ := List.mem_filterMap.mp hm; nfr (List.mem_filterMap.mpr ⟨e, List.mem_cons_of_mem _ he, q⟩)
    have S3 := J3.suite he3 hd3 na nL nF
    have LT : PySem.W.Looks (model X.prog X.w) h3 (typeOf (.ref a)) cls := fun A Q E s k q => wpAny_typeOf_ref (k _ _ he3) (by rw [hz3.1]; exact q)
    have test : ∀ {x : Str} {c : Value} {np : Pos} {Q E : Value → Shared → Prop}, Names X x c → Q c { s' with heap := h3 } → wpAny (model X.prog X.w) (X.A.mark (some (.ref a))) (eval (.Name x np) X.env) Q E { s' with heap := h3 } := fun {x c np Q E} hc q => by
      rcases hc with ⟨hg, hdbg, hm | ⟨hm, hv, hnn⟩⟩
      · exact ld_glob (X := X.suite a ((a, oe3) :: (X.pn ++ pins))) S3 hg hm q hdbg
      · exact ld_blt (X := X.suite a ((a, oe3) :: (X.pn ++ pins))) S3 hg hm hv q hnn hdbg
    have go : ∀ {hds' : List ExceptHandler} {l' : List Cl}, ClOk X hds' l' → wCl X.K Wout D l' cls d σ' H' → wpAny (model X.prog X.w) X.A (handleBy (.ref a) X.env hds') (SP X pins D) X.xe { s' with heap := h3 } := fun {hds' l'} hk => by
      induction hk with
      | nil =>
        intro w
        refine wpAny_handleBy_nil ?_
        obtain ⟨k1, k2, k3, oe, vs, T, oT, ts', he, hz, hd, h1, hr⟩ := id fl3
        unfold PySem.passOn
        refine wpAny_bind (wpAny_field he hd h1 ?_)
        rw [if_neg (show ¬ ((Value.ref T == Value.none) = true) by simp)]
        have fin : wpAny (model X.prog X.w) X.A (setFlight (.ref a) X.env.frame) (fun _ t => wpAny (model X.prog X.w) X.A (throw (.ref a) : Sem Flow) (SP X pins D) X.xe t) X.xe { s' with heap := h3 } := by
          rw [hf]
          exact HandSPX.setFlight_upZ fl3 fun h4 hh4 up4 => wpAny_throw (tk _ _ ⟨a, B, sI, pins, σ', H', cls, d, rfl, J, nb, (up.trans up3).trans up4, .inr (.inr (by rw [hs]; exact hh4)), na, os, ag, w⟩)
        first | exact wpAny_bind (wpAny_pure (wpAny_bind fin)) | exact wpAny_bind fin
      | @named x n i c ts b0 su np pos' hds2 l2 hi hln hc hsu r ih =>
        intro w
        obtain ⟨b, hb1, hyes, hno⟩ := w
        have LM := PySem.W.exm_one (M := model X.prog X.w) (J3.kIn) LT hb1
        refine wpAny_handleBy_cons (codeAny_handlers_test (test hc (LM.here ?_))) (by intro q; cases q)
        cases b with
        | false => exact ih (hno rfl)
        | true =>
          refine codeAny_handlers_suite_as (HandSPX.lands_againZ fl3 fun h4 fl4 up4 => ?_)
          have J4 : Inv X pins σ' H' { s' with heap := h4 } := J.landed nb fl4.1 ((up.trans up3).trans up4) os ag
          obtain ⟨oe4, vs4, he4, hz4, hd4⟩ := fl4.there
          have S4 := J4.suite he4 hd4 na nL nF
          refine store_ok (X := X.suite a ((a, oe4) :: (X.pn ++ pins))) (v := .ref a) S4 hN hi (.inl hln) rfl (fun s5 S5 => wpAny_mono ((hsu a oe4 cls d (X.pn ++ pins) hz4 ⟨_, hd4⟩).run [] s5 _ H' _ S5 (hyes rfl a na)) (fun f s6 hsp => ?_) (fun _ _ z => z.elim)) (.inr hln)
          have bye : ∀ {σ6 : L2.St} {H6 : Hp} {Q : Shared → Prop}, Inv (X.suite a ((a, oe4) :: (X.pn ++ pins))) [] σ6 H6 s6 → (∀ s7, Inv X pins (σ6.set i none) H6 s7 → Q s7) → wpAny (model X.prog X.w) X.A (do bindName X.env n .none; unbindBehindTheSuite X.env n pos') (fun _ s7 => Q s7) X.xe s6 := fun S6 hq => gone_ok (S6.unsuite ok) hN hi hln hq
          match f, hsp with
          | .next, ⟨σ6, H6, S6, q6⟩ => exact bye S6 fun s7 J7 => ⟨_, _, J7, q6⟩
          | .brk, ⟨σ6, H6, S6, q6⟩ => exact bye S6 fun s7 J7 => ⟨_, _, J7, q6⟩
          | .cont, ⟨σ6, H6, S6, q6⟩ => exact bye S6 fun s7 J7 => ⟨_, _, J7, q6⟩
          | .ret u, ⟨v6, σ6, H6, S6, r6, q6⟩ => exact bye S6 fun s7 J7 => ⟨_, _, _, J7, r6, q6⟩
      | @plain x c ts b0 su np pos' hds2 l2 hc hsu r ih =>
        intro w
        obtain ⟨b, hb1, hyes, hno⟩ := w
        have LM := PySem.W.exm_one (M := model X.prog X.w) (J3.kIn) LT hb1
        refine wpAny_handleBy_cons (codeAny_handlers_test (test hc (LM.here ?_))) (by intro q; cases q)
        cases b with
        | false => exact ih (hno rfl)
        | true =>
          refine codeAny_handlers_suite (HandSPX.lands_againZ fl3 fun h4 fl4 up4 => ?_)
          have J4 : Inv X pins σ' H' { s' with heap := h4 } := J.landed nb fl4.1 ((up.trans up3).trans up4) os ag
          obtain ⟨oe4, vs4, he4, hz4, hd4⟩ := fl4.there
          have S4 := J4.suite he4 hd4 na nL nF
          refine wpAny_mono ((hsu a oe4 cls d (X.pn ++ pins) hz4 ⟨_, hd4⟩).run [] _ _ H' _ S4 (hyes rfl a na)) (fun f s6 hsp => ?_) (fun _ _ z => z.elim)
          match f, hsp with
          | .next, ⟨σ6, H6, S6, q6⟩ => exact ⟨_, _, S6.unsuite ok, q6⟩
          | .brk, ⟨σ6, H6, S6, q6⟩ => exact ⟨_, _, S6.unsuite ok, q6⟩
          | .cont, ⟨σ6, H6, S6, q6⟩ => exact ⟨_, _, S6.unsuite ok, q6⟩
          | .ret u, ⟨v6, σ6, H6, S6, r6, q6⟩ => exact ⟨_, _, _, S6.unsuite ok, r6, q6⟩
    exact go hh w
  · match f, hsp with
    | .next, hsp => exact wpAny_execs_nil (sp_next ok hsp)
    | .brk, hsp => exact sp_next ok hsp
    | .cont, hsp => exact sp_next ok hsp
    | .ret u, hsp => exact sp_next ok hsp⟩
end
end DL

set_option Elab.async false
set_option linter.all false
set_option maxRecDepth 100000
set_option maxHeartbeats 1000000
namespace DL
open PySem L2 PySem.Spec PyProof.Rows
variable {M : Md}
/-- S: whether an exception of a class is caught by a clause -/
def ExK (K : PySem.W.Frag) (mg : Str → Option Value) (S : Str → Str → Option Bool) : Prop := ∀ (c x : Str) (b : Bool), S c x = some b → ∀ (C D : Addr), mg c = some (.ref C) → mg x = some (.ref D) → PySem.W.exmOne K (.ref C) (.ref D) = some b
abbrev Hd := Str × Option Nat × (Addr → Addr → Str → FX)
def clr : Option Nat → Env → Env
  | some i, ρ => ρ.set i none
  | none, ρ => ρ
def flC (oi : Option Nat) : Fl → Ds → Out Fl
  | .nx ρ, s => .ok (.nx (clr oi ρ)) s
  | .rt d, s => .ok (.rt d) s
  | .bk ρ, s => .ok (.bk (clr oi ρ)) s
  | .ct ρ, s => .ok (.ct (clr oi ρ)) s
  | .ex _ _ _, _ => .err
def setC (oi : Option Nat) (ρ : Env) (d : D) : Env := match oi with
  | some i => ρ.set i (some d)
  | none => ρ
def mHds (S : Str → Str → Option Bool) : List Hd → Str → List (Str × D) → Env → Ds → Out Fl
  | [], c, fs, ρ, s => .ok (.ex c fs ρ) s
  | (x, oi, su) :: r, c, fs, ρ, s => match S c x with
    | some true => .anyA fun a => .anyA fun dd => (su a dd c (setC oi ρ (.xcg a dd c fs)) s).bind (flC oi)
    | some false => mHds S r c fs ρ s
    | none => .err
def mTry (S : Str → Str → Option Bool) (mb : FX) (hs : List Hd) : FX := fun ρ s => (mb ρ s).bind fun fl s => match fl with
  | .ex c fs ρ' => mHds S hs c fs ρ' s
  | fl => .ok fl s
theorem _root_.L2.PSs.ex {X : Cx} {e : List Stmt} {ι : Type} {t : ι → TS} (h : ∀ i, PSs X e (t i)) : PSs X e (fun D σ H => ∃ i, t i D σ H) := ⟨fun pins s σ H D I ⟨i, q⟩ => (h i).run pins s σ H D I q⟩
/-- the clauses of the text and their mirrors -/
inductive HdOk (X : Cx) : List ExceptHandler → List Hd → Prop
  | nil : HdOk X [] []
  | named {x n : Str} {i : Nat} {su : Addr → Addr → Str → FX} {b0 : Stmt} {st : List Stmt} {np pos' : Pos} {hds : List ExceptHandler} {l : List Hd} (hi : X.N[i]? = some n) (hln : X.env.kindOf n = some .local) (hg : Gl X x) (hd : (x == ("__debug__" : Str)) = false) (hx : ∃ D, X.mg x = some (.ref D))
      (hsu : ∀ (a : Addr) (oe : Obj) (C dd : Addr) (c : Str) (pn : List (Addr × Obj)), X.mg c = some (.ref C) → Zc (.ref C) (some dd) oe → (∃ vs, oe.data = .fields vs) → MSs (X.suite a ((a, oe) :: pn)) W0 (b0 :: st) (su a dd c)) (r : HdOk X hds l) :
      HdOk X (.ExceptHandler (some (.Name x np)) (some n) (b0 :: st) pos' :: hds) ((x, some i, su) :: l)
  | plain {x : Str} {su : Addr → Addr → Str → FX} {b0 : Stmt} {st : List Stmt} {np pos' : Pos} {hds : List ExceptHandler} {l : List Hd} (hg : Gl X x) (hd : (x == ("__debug__" : Str)) = false) (hx : ∃ D, X.mg x = some (.ref D))
      (hsu : ∀ (a : Addr) (oe : Obj) (C dd : Addr) (c : Str) (pn : List (Addr × Obj)), X.mg c = some (.ref C) → Zc (.ref C) (some dd) oe → (∃ vs, oe.data = .fields vs) → MSs (X.suite a ((a, oe) :: pn)) W0 (b0 :: st) (su a dd c)) (r : HdOk X hds l) :
      HdOk X (.ExceptHandler (some (.Name x np)) none (b0 :: st) pos' :: hds) ((x, none, su) :: l)
def tsOf (M : Md) (su : Addr → Addr → Str → FX) (a : Addr) (cls : Value) (d : Option Addr) : TS := fun D σ H => ∃ (p : Addr × Addr × Str), M.mg p.2.2 = some (.ref p.1) ∧ cls = .ref p.1 ∧ d = some p.2.1 ∧ liftS M W0 (cpsS M (su a p.2.1 p.2.2)) D σ H
section
variable {X : Cx} {W : WX}
theorem ts_ok {su : Addr → Addr → Str → FX} {st : List Stmt} (hsu : ∀ (a : Addr) (oe : Obj) (C dd : Addr) (c : Str) (pn : List (Addr × Obj)), X.mg c = some (.ref C) → Zc (.ref C) (some dd) oe → (∃ vs, oe.data = .fields vs) → MSs (X.suite a ((a, oe) :: pn)) W0 st (su a dd c))
    (a : Addr) (oe : Obj) (cls : Value) (d : Option Addr) (pn : List (Addr × Obj)) (hz : Zc cls d oe) (hv : ∃ vs, oe.data = .fields vs) : PSs (X.suite a ((a, oe) :: pn)) st (tsOf X.md su a cls d) := .ex fun p => ⟨fun pins s σ H D I ⟨h1, h2, h3, h4⟩ => by
  subst h2; subst h3
  exact (hsu a oe p.1 p.2.1 p.2.2 pn h1 hz hv).run pins s σ H D I h4⟩
/-- the exception's slot -/
theorem SR.setX {R : Res} {F0 B Fz H : Hp} {σ : L2.St} {ρ : Env} {oi : Option Nat} {a : Addr} {d : D} (s : SR M R F0 B Fz H σ ρ) (h : Dp M B (.ref a) d) : SR M R F0 B Fz H (slotOf σ a oi) (setC oi ρ d) := by
  cases oi with
  | none => exact s
  | some i => exact s.set h
theorem SR.clear {R : Res} {F0 B Fz H : Hp} {σ : L2.St} {ρ : Env} {i : Nat} (s : SR M R F0 B Fz H σ ρ) : SR M R F0 B Fz H (σ.set i none) (ρ.set i none) where
  wd := s.wd
  sl := s.sl.clear
  f0 := s.f0
  s0 := s.s0
  own := fun j x e => by
    obtain ⟨ne, e⟩ := set_own (fun y hy => by cases hy) e
    rw [List.getElem?_set_ne ne]
    exact s.own j x e
  inj := fun j k x y a e1 e2 e3 e4 => by
    obtain ⟨n1, e1⟩ := set_own (fun y hy => by cases hy) e1
    obtain ⟨n2, e2⟩ := set_own (fun y hy => by cases hy) e2
    rw [List.getElem?_set_ne n1] at e3
    rw [List.getElem?_set_ne n2] at e4
    exact s.inj j k x y a e1 e2 e3 e4
theorem hd_clause {K : PySem.W.Frag} {F0 B : Hp} {De : DEnds} {En : Ends} (x : EL M W F0 B De En) {su : Addr → Addr → Str → FX} {oi : Option Nat} {c : Str} {C dd a : Addr} {H' B' Fz' : Hp} {vs : List (Str × V)} {fs : List (Str × D)} {σ' : L2.St} {ρ' : Env} {s : Ds} (hm : M.mg c = some (.ref C))
    (e : Ex B B') (sr : SR M (resOf M s) F0 B' Fz' H' σ' ρ') (hd : B' dd = some (.xd vs)) (hf : Dpf M B' vs fs) (q : postS M De ((su a dd c (setC oi ρ' (.xcg a dd c fs)) s).bind (flC oi))) : tsOf M su a (.ref C) (some dd) (endsOf En oi) (slotOf σ' a oi) H' := by
  refine ⟨(C, dd, c), hm, rfl, rfl, _, F0, B', Fz', setC oi ρ' (.xcg a dd c fs), { nx := fun R ρ2 => De.nx R (clr oi ρ2), rt := De.rt, bk := fun R ρ2 => De.bk R (clr oi ρ2), ct := fun R ρ2 => De.ct R (clr oi ρ2) }, sr.setX (.xcg hm hd hf), ⟨s, rfl, Out.post_mono (fun fl s1 h1 => ?_) (fun _ _ _ z => z) _ ((Out.post_bind _).mp q)⟩, ?_⟩
  · cases fl with
    | ex _ _ _ => exact h1.elim
    | _ => exact h1
  · have x1 := x.mono e
    refine ⟨fun R2 σ2 ρ2 B2 Fz2 H2 e2 s2 q2 => ?_, ?_, fun R2 σ2 ρ2 B2 Fz2 H2 e2 s2 q2 => ?_, fun R2 σ2 ρ2 B2 Fz2 H2 e2 s2 q2 => ?_, fun _ _ _ _ _ _ _ _ _ _ _ _ _ _ _ _ q2 => q2⟩
    · cases oi with
      | none => exact x1.nx _ _ _ _ _ _ e2 s2 q2
      | some i => exact x1.nx _ _ _ _ _ _ e2 s2.clear q2
    · cases oi with
      | none => exact x1.rt
      | some i => exact x1.rt
    · cases oi with
      | none => exact x1.bk _ _ _ _ _ _ e2 s2 q2
      | some i => exact x1.bk _ _ _ _ _ _ e2 s2.clear q2
    · cases oi with
      | none => exact x1.ct _ _ _ _ _ _ e2 s2 q2
      | some i => exact x1.ct _ _ _ _ _ _ e2 s2.clear q2
theorem hds_ok {S : Str → Str → Option Bool} (hS : ExK X.K X.mg S) : ∀ {hds : List ExceptHandler} {hs : List Hd}, HdOk X hds hs → ∃ l, ClOk X hds l ∧ ∀ {F0 B : Hp} {De : DEnds} {En : Ends}, EL X.md W F0 B De En →
    ∀ (s : Ds) (c : Str) (C dd : Addr) (H' B' Fz' : Hp) (vs : List (Str × V)) (fs : List (Str × D)) (σ' : L2.St) (ρ' : Env), X.mg c = some (.ref C) → Ex B B' → SR X.md (resOf X.md s) F0 B' Fz' H' σ' ρ' → B' dd = some (.xd vs) → Dpf X.md B' vs fs → postS X.md De (mHds S hs c fs ρ' s) → wCl X.K W En l (.ref C) (some dd) σ' H'
  | _, _, .nil => ⟨[], .nil, fun x s c C dd H' B' Fz' vs fs σ' ρ' hm e sr hd hf q => x.ex _ c C dd H' B' Fz' vs fs σ' ρ' hm e sr hd hf q⟩
  | _, _, @HdOk.named _ x n i su b0 st np pos' hds hs hi hln hg hdb hx hsu r => by
    obtain ⟨l, h1, h2⟩ := hds_ok hS r
    obtain ⟨D, hD⟩ := hx
    refine ⟨(.ref D, some i, tsOf X.md su) :: l, .named hi hln ⟨hg, hdb, .inl hD⟩ (ts_ok hsu) h1, fun x' s c C dd H' B' Fz' vs fs σ' ρ' hm e sr hd hf q => ?_⟩
    unfold mHds at q
    cases qs : S c x with
    | none => rw [qs] at q; exact q.elim
    | some b =>
      rw [qs] at q
      have hx := hS c x b qs C D hm hD
      refine ⟨b, hx, fun hb a _ => ?_, fun hb => ?_⟩
      · subst hb
        exact hd_clause (K := X.K) x' hm e sr hd hf (q a dd)
      · subst hb
        exact h2 x' s c C dd H' B' Fz' vs fs σ' ρ' hm e sr hd hf q
  | _, _, @HdOk.plain _ x su b0 st np pos' hds hs hg hdb hx hsu r => by
    obtain ⟨l, h1, h2⟩ := hds_ok hS r
    obtain ⟨D, hD⟩ := hx
    refine ⟨(.ref D, none, tsOf X.md su) :: l, .plain ⟨hg, hdb, .inl hD⟩ (ts_ok hsu) h1, fun x' s c C dd H' B' Fz' vs fs σ' ρ' hm e sr hd hf q => ?_⟩
    unfold mHds at q
    cases qs : S c x with
    | none => rw [qs] at q; exact q.elim
    | some b =>
      rw [qs] at q
      have hx := hS c x b qs C D hm hD
      refine ⟨b, hx, fun hb a _ => ?_, fun hb => ?_⟩
      · subst hb
        exact hd_clause (K := X.K) x' hm e sr hd hf (q a dd)
      · subst hb
        exact h2 x' s c C dd H' B' Fz' vs fs σ' ρ' hm e sr hd hf q
theorem ms_try {S : Str → Str → Option Bool} {body : List Stmt} {h0 : ExceptHandler} {hds : List ExceptHandler} {hs : List Hd} {mb : FX} {pos : Pos} (hS : ExK X.K X.mg S) (hst : X.stack = X.env :: X.outer) (hf : X.env.frame = some X.env.locals) (hN : X.N.Nodup) (tk : Takes X W)
    (hb : ∀ (W : WX) (pn : List (Addr × Obj)) (xe : Value → Shared → Prop), Takes (X.tr pn xe) W → PassesOwn (model X.prog X.w) X.A X.env xe → MSs (X.tr pn xe) W body mb) (hh : HdOk X (h0 :: hds) hs) : MS X W (.Try body (h0 :: hds) [] [] pos) (mTry S mb hs) := by
  obtain ⟨l, h1, h2⟩ := hds_ok (W := W) hS hh
  refine (ps_cl (tb := fun W => liftS X.md W (cpsS X.md mb)) hst hf hN tk hb h1).imp fun En σ H ⟨R, F0, B, Fz, ρ, De, sr, ⟨s, hs, q⟩, x⟩ => ?_
  subst hs
  refine ⟨_, F0, B, Fz, ρ, { De with ex := fun R c fs ρ' => ∃ s, R = resOf X.md s ∧ postS X.md De (mHds S hs c fs ρ' s) }, sr, ⟨s, rfl, Out.post_mono (fun fl s1 h1 => ?_) (fun _ _ _ z => z) _ ((Out.post_bind _).mp q)⟩, ?_⟩
  · cases fl with
    | ex c fs ρ' => exact ⟨s1, rfl, h1⟩
    | _ => exact h1
  · refine ⟨x.nx, x.rt, x.bk, x.ct, ?_⟩
    rintro R2 c C dd H' B' Fz' vs fs σ' ρ' hm e sr2 hd hf ⟨s2, rfl, q2⟩
    exact h2 x s2 c C dd H' B' Fz' vs fs σ' ρ' hm e sr2 hd hf q2
/-- e.f of the caught exception -/
def AttX (K : PySem.W.Frag) (mg : Str → Option Value) (A : Str → Str → Bool) : Prop := ∀ c n C, A c n = true → mg c = some (.ref C) → XfC K C ∧ PySem.W.findIn K (.ref C) n = some none
def xcgD (A : Str → Str → Bool) (a dd : Addr) (c n : Str) : Option (Option D) → Option D
  | some (some (.xcg a' dd' c' fs)) => if a' = a ∧ dd' = dd ∧ c' = c ∧ A c n = true then fs.lookup n else none
  | _ => none
def mXf (A : Str → Str → Bool) (i : Nat) (a dd : Addr) (c n : Str) : FE := fun ρ s => optO (xcgD A a dd c n ρ[i]?) s
theorem me_xf {A : Str → Str → Bool} {a C dd : Addr} {oe : Obj} {c y n : Str} {pn : List (Addr × Obj)} {pos p : Pos} (i : Nat) (hA : AttX X.K X.mg A) (hc : X.mg c = some (.ref C)) (hz : Zc (.ref C) (some dd) oe) (hv : ∃ vs, oe.data = .fields vs)
    (hN : X.N[i]? = some y := by rfl) (hvs : Vis X.env.scope y := by first | exact Or.inl rfl | exact Or.inr (Or.inl rfl) | exact Or.inr (Or.inr rfl)) (hd : (y == ("__debug__" : Str)) = false := by decide) (hcd : (y == ("__classdict__" : Str)) = false := by decide) (hb : attributeBase (.Name y p) n X.env (eval (.Name y p) X.env) = eval (.Name y p) X.env := by rfl) :
    ME (X.suite a ((a, oe) :: pn)) W (.Attribute (.Name y p) n pos) (mXf A i a dd c n) := by
  by_cases hAc : A c n = true
  · obtain ⟨T, hno⟩ := hA c n C hAc hc
    refine (pe_xf T hno hz hv (pe_var (X := X.suite a ((a, oe) :: pn)) (pos := p) (i := i) hN hvs hd hcd) hb).imp fun σ H Q ⟨R, Fz, B, ρ, Qd, E, w, sl, ⟨s, hs, q⟩, k, x⟩ => ?_
    subst hs
    obtain ⟨z, hz', q'⟩ := post_opt q
    unfold xcgD at hz'
    split at hz'
    · rename_i a' dd' c' fs hρ
      split at hz'
      · rename_i hq
        obtain ⟨rfl, rfl, rfl, _⟩ := hq
        obtain ⟨v, hσ, hv'⟩ := sl.get i _ hρ rfl
        cases hv' with
        | xcg hm hB hf =>
          obtain ⟨u, hu, hd'⟩ := hf.look hz'
          exact ⟨_, hσ, rfl, rfl, _, _, u, rfl, w.ex _ _ hB, hu, k _ u H B z (Ex.refl B) w hd' q'⟩
      · cases hz'
    · cases hz'
  · refine ⟨fun pins s σ H Q I ⟨R, Fz, B, ρ, Qd, E, w, sl, ⟨s1, hs, q⟩, k, x⟩ => ?_⟩
    obtain ⟨z, hz', q'⟩ := post_opt q
    unfold xcgD at hz'
    split at hz'
    · split at hz'
      · rename_i hq; exact absurd hq.2.2.2 hAc
      · cases hz'
    · cases hz'
end
end DL

set_option Elab.async false
set_option linter.all false
set_option maxRecDepth 100000
set_option maxHeartbeats 1000000
namespace DL
open PySem L2 PySem.Spec PyProof.Rows
variable {M : Md}
/-! ### built-ins that look at the state -/
def rcS (M : Md) (o : List D → Ds → Out D) : List V → Hp → VK → Prop := fun xs H Q => ∃ (s : Ds) (Fz B : Hp) (ds : List D) (Qd : DQ), Wd (resOf M s) B Fz H ∧ Dps M B xs ds ∧ (o ds s).post (fun d s' => Qd (resOf M s') d) (fun _ _ _ => False) ∧ VL M B Fz Qd Q
section
variable {X : Cx} {W : WX} {e : Expr} {es : List Expr} {pos : Pos} {mr : FA}
/-- an error may not come of it -/
def mCallN (f : FF) (mr : FA) : FE := fun ρ s => (mr ρ s).bind fun ds s => (f ds s).bindN .ok
theorem lift_cs {o : FF} {σ : L2.St} {H : Hp} {Q : VK} (h : lift X.md W (cps X.md (mCallN o mr)) σ H Q) : tCB (rcS X.md o) (liftA X.md W (cps X.md mr)) σ H Q := by
  obtain ⟨R, Fz, B, ρ, Qd, E, w, sl, ⟨s, hs, q⟩, k, x⟩ := h
  subst hs
  refine ⟨_, Fz, B, ρ, fun R ds => ∃ s, R = resOf X.md s ∧ (o ds s).post (fun d s' => Qd (resOf X.md s') d) (fun _ _ _ => False), E, w, sl, ⟨s, rfl, Out.post_mono (fun ds s1 h1 => ⟨s1, rfl, h1⟩) (fun _ _ _ z => z) _ q⟩, ?_, x⟩
  rintro R1 us H1 B1 ds e1 w1 h1 ⟨s1, rfl, q1⟩
  exact ⟨s1, Fz, B1, ds, Qd, w1, h1, q1, k.mono e1⟩
theorem me_cs {x : Str} {id : String} {p : Pos} {o : FF} (hc : CallR X (.builtin id) (rcS X.md o)) (hg : Gl X x) (hm : X.mg x = none) (hv : bootBuiltins x = some (.builtin id)) (ha : MA X W (e :: es) mr) (hn : x ≠ "__name__" := by decide) (hdb : (x == ("__debug__" : Str)) = false := by decide)
    (he : starEach (e :: es) X.env = (false, eval e X.env) :: starEach es X.env := by rfl) (hpl : (backTo pos (starEach es X.env)).any (·.1) = false := by rfl) : ME X W (.Call (.Name x p) (e :: es) [] pos) (mCallN o mr) :=
  (pe_callB hc hg hm hv ha hn hdb he hpl).imp fun _ _ _ h => lift_cs h
/-! ### isinstance -/
abbrev Tg := Sum String Str
def tagD (s : Ds) (d : D) : Option Tg := match tyD d with
  | some T => some (.inl T)
  | none => (insD s d).map fun p => .inr p.1
structure InsK (K : PySem.W.Frag) (C : Addr) : Prop where
  cl : Cls K C
  ha : PySem.W.findIn K (.ref C) "__class__" = some (some (.builtin "object.__class__"))
  hn : PySem.W.specialIn K (.builtin "object.__class__") "__get__" = some (some (.builtin "getset_descriptor.__get__"))
  tk : PySem.W.takesIn K (.builtin "object.__class__") = some true
  hm : PySem.W.mroIn K C (.type "object") = some true
def isClsD : D → Bool
  | .cls _ => true
  | .ty _ => true
  | _ => false
theorem clsU_of {B : Hp} {v : V} {k : D} {u : Value} (h : isClsD k = true) (hd : Dp M B v k) (r : L2.RelV v u) : clsU M.mg k u := by
  cases k <;> first | (cases h; done) | skip
  · cases hd with
    | cls hm => cases r; exact ⟨hm, _, rfl⟩
  · cases hd; cases r; rfl
def IsiK (K : PySem.W.Frag) (mg : Str → Option Value) (S : Tg → D → Option Bool) : Prop := ∀ (g : Tg) (k : D) (b : Bool), S g k = some b → isClsD k = true ∧ ∀ u, clsU mg k u → match g with
  | .inl T => PySem.W.kitOne K (.type T) u = some b
  | .inr c => ∀ C, mg c = some (.ref C) → InsK K C ∧ PySem.W.kitOne K (.ref C) u = some b
def anyS (S : Tg → D → Option Bool) (g : Tg) : List D → Option Bool
  | [] => some false
  | k :: r => match S g k, anyS S g r with
    | some b, some c => some (b || c)
    | _, _ => none
def D.isNil : List D → Bool
  | [] => true
  | _ => false
def oIsiS (S : Tg → D → Option Bool) (s : Ds) : List D → Option Bool
  | [d, .tup ks] => if D.isNil ks = true then none else (tagD s d).bind fun g => (anyS S g ks)
  | [d, k] => (tagD s d).bind fun g => S g k
  | _ => none
def fIsiS (S : Tg → D → Option Bool) : FF := fun ds s => optO ((oIsiS S s ds).map .bl) s
def TagAt (M : Md) (H : Hp) (v : V) : Tg → Prop
  | .inl T => TyX M.K H v (.type T)
  | .inr c => ∃ a C dx fs, v = .ref a ∧ M.mg c = some (.ref C) ∧ H a = some (.ins C dx fs)
theorem tagD_at {s : Ds} {v : V} {d : D} {g : Tg} {B Fz H : Hp} (w : Wd (resOf M s) B Fz H) (hd : Dp M B v d) (h : tagD s d = some g) : TagAt M H v g := by
  unfold tagD at h
  split at h
  · rename_i T e
    cases h
    exact hd.tyx w.ex e
  · cases q : insD s d with
    | none => rw [q] at h; cases h
    | some p =>
      rw [q] at h
      cases h
      obtain ⟨a, C, dx, vs, h1, h2, h3, _⟩ := insD_at w hd q
      exact ⟨a, C, dx, vs, h1, h2, h3⟩
def tgV (mg : Str → Option Value) : Tg → Value
  | .inl T => .type T
  | .inr c => (mg c).getD .none
theorem tag_one {S : Tg → D → Option Bool} {K : PySem.W.Frag} (hS : IsiK K M.mg S) (hK : K = M.K) {H : Hp} {v : V} {g : Tg} (ht : TagAt M H v g) {k : D} {b : Bool} (h : S g k = some b) {B : Hp} {vk : V} {u : Value} (hd : Dp M B vk k) (r : L2.RelV vk u) : TyX K H v (tgV M.mg g) ∧ PySem.W.kitOne K (tgV M.mg g) u = some b := by
  subst hK
  obtain ⟨hc, hk⟩ := hS g k b h
  have hk := hk u (clsU_of hc hd r)
  cases g with
  | inl T => exact ⟨ht, hk⟩
  | inr c =>
    obtain ⟨a, C, dx, fs, rfl, hC, hH⟩ := ht
    obtain ⟨T, hk⟩ := hk C hC
    have e : tgV M.mg (.inr c) = .ref C := by show (M.mg c).getD .none = .ref C; rw [hC]; rfl
    rw [e]
    exact ⟨.base (.ins hH T.cl T.ha T.hn T.tk T.hm), hk⟩
theorem tag_all {S : Tg → D → Option Bool} {K : PySem.W.Frag} (hS : IsiK K M.mg S) (hK : K = M.K) {H B : Hp} {v : V} {g : Tg} (ht : TagAt M H v g) : ∀ {ks : List D} {vs : List V} {ws : List Value} {b : Bool}, Dps M B vs ks → Vals vs ws → anyS S g ks = some b → PySem.W.kitAny K (tgV M.mg g) ws = some b
  | [], _, _, b, .nil, .nil, h => by cases h; rfl
  | k :: r, _, _, b, .cons h1 t1, .cons r1 rs, h => by
    unfold anyS at h
    cases q1 : S g k with
    | none => rw [q1] at h; cases h
    | some b1 =>
      cases q2 : anyS S g r with
      | none => rw [q1, q2] at h; cases h
      | some b2 =>
        rw [q1, q2] at h
        cases h
        obtain ⟨_, hk⟩ := tag_one hS hK ht q1 h1 r1
        refine kitAny_cons hk (fun hb => ?_) (fun hb => by rw [hb]; rfl)
        rw [hb]
        exact tag_all hS hK ht t1 rs q2
theorem call_isiS {X : Cx} {S : Tg → D → Option Bool} (hS : IsiK X.K X.mg S) : CallR X (.builtin "isinstance") (rcS X.md (fIsiS S)) := by
  rintro pins s σ H xs us Q I r ⟨st, Fz, B, ds, Qd, w, h, hf, k⟩
  obtain ⟨z, hz, q⟩ := post_opt hf
  obtain ⟨b, hb, rfl⟩ := Option.map_eq_some_iff.mp hz
  have fin : ∀ tk, EP X pins σ Q (.bool b) { s with toks := tk } := fun tk => ⟨.bl b, H, I.tok tk, rfl, k _ _ H B _ (Ex.refl B) w (.bl b) q⟩
  unfold oIsiS at hb
  split at hb
  · rename_i d ks
    split at hb
    · cases hb
    · rename_i hne
      cases qt : tagD st d with
      | none => rw [qt] at hb; cases hb
      | some g =>
        rw [qt] at hb
        have hb : anyS S g ks = some b := hb
        cases h with
        | @cons v1 _ _ _ h1 t1 => cases t1 with
          | cons h2 t2 =>
            cases t2
            obtain ⟨u1, u2, rfl, r1, r2⟩ := vals2 r
            have ht := tagD_at w h1 qt
            cases h2 with
            | tup hT hts =>
              cases r2
              obtain ⟨its, rv, ⟨o, ho, hc, n, hd⟩, _⟩ := I.tuple (w.ex.st hT.st)
              obtain ⟨o1, o2, o3, o4⟩ := o
              simp only at hc hd
              subst hc hd
              have e := tag_all (M := X.md) hS rfl ht hts rv hb
              have ty : TyX X.K H v1 (tgV X.mg g) := by
                cases ks with
                | nil => exact (hne rfl).elim
                | cons k0 kr =>
                  unfold anyS at hb
                  cases q1 : S g k0 with
                  | none => rw [q1] at hb; cases hb
                  | some b1 =>
                    cases hts with
                    | cons h3 t3 => cases rv with
                      | cons r3 rs3 => exact (tag_one (M := X.md) hS rfl ht q1 h3 r3).1
              obtain ⟨P, Z, p, hx⟩ := kit_of I r1 ty
              exact PySem.W.kia_tup Z I.kIn p ho e hx fin
  · rename_i d kd hnt
    cases qt : tagD st d with
    | none => rw [qt] at hb; cases hb
    | some g =>
      rw [qt] at hb
      have hb : S g kd = some b := hb
      cases h with
      | cons h1 t1 => cases t1 with
        | cons h2 t2 =>
          cases t2
          obtain ⟨u1, u2, rfl, r1, r2⟩ := vals2 r
          obtain ⟨ty, hk⟩ := tag_one (M := X.md) hS rfl (tagD_at w h1 qt) hb h2 r2
          obtain ⟨P, Z, p, hx⟩ := kit_of I r1 ty
          exact PySem.W.kia_one Z I.kIn p hk hx fin
  · cases hb
theorem me_isiS {p : Pos} {e2 : Expr} {S : Tg → D → Option Bool} (hS : IsiK X.K X.mg S) (hg : Gl X "isinstance") (hm : X.mg "isinstance" = none) (ha : MA X W [e, e2] mr) (he : starEach [e, e2] X.env = (false, eval e X.env) :: starEach [e2] X.env := by rfl) (hpl : (backTo pos (starEach [e2] X.env)).any (·.1) = false := by rfl) :
    ME X W (.Call (.Name "isinstance" p) [e, e2] [] pos) (mCallN (fIsiS S) mr) := me_cs (call_isiS hS) hg hm (by decide +kernel) ha (he := he) (hpl := hpl)
/-! ### sorted of a tuple -/
theorem collect_tup {prog : Program} {w : World} {A : Around} {E : Value → Shared → Prop} {s : Shared} {l : Addr} {vs : List Value} {Q : List Value → Shared → Prop} (hl : IsTup s.heap l vs.toArray)
    (h : Q vs { s with heap := (s.heap.push (seqObj "list" #[] 0)).update s.heap.objs.size (Obj.mapSeq (· ++ vs.toArray)) }) (hsz : vs.length ≤ sizeLine) : wpAny (model prog w) A (collect (.ref l)) Q E s := by
  obtain ⟨o, ho, hc, n, hd⟩ := id hl
  unfold collect
  refine wpAny_bind (wpAny_runValue (codeAny_builtin entry_proto_collect' (show wpAny _ _ (do again (.builtin "list.__iadd__" ⟨[← newList [], .ref l], []⟩)) _ _ s from ?_)))
  refine wpAny_bind (wpAny_newList (wpAny_pure ⟨Code.quiet_builtin _ (by decide +kernel), codeAny_builtin entry_list_iadd' (show wpAny _ _ (Builtin.List.listExtendWith (.ref s.heap.objs.size) (.ref l) (.ref s.heap.objs.size)) _ _ { s with heap := s.heap.push (seqObj "list" #[] 0) } from ?_)⟩))
  unfold Builtin.List.listExtendWith
  have ho' : (s.heap.push (seqObj "list" #[] 0)).get? l = some o := Heap.get?_push_of_some _ ho
  refine wpAny_bind (wpAny_typeOf (T := "tuple") ⟨o, ho', hc⟩ ?_)
  rw [if_pos (by rw [show (Value.type "tuple" == Value.type "tuple") = true by rfl]; simp)]
  refine wpAny_bind (listItems_at ho' hd (wpAny_bind (listItems_at (xs := #[]) (n := 0) (Heap.get?_push_size _ rfl) rfl ?_)))
  rw [if_neg (by simp)]
  refine wpAny_bind (listUpdate_at (xs := #[]) (n := 0) (Heap.get?_push_size _ rfl) rfl (wpAny_pure ?_) (Nat.zero_le _) (by show (#[] ++ vs.toArray).size ≤ sizeLine + 1; simp only [Array.size_append, List.size_toArray, List.length_nil]; omega))
  show wpAny (model prog w) A (do let o ← load s.heap.objs.size; match o.data with | .seq xs _ => pure xs.toList | _ => unsupported "internal:collect") Q E { s with heap := (s.heap.push (seqObj "list" #[] 0)).update s.heap.objs.size (Obj.mapSeq (· ++ vs.toArray)) }
  refine wpAny_bind (wpAny_load (get?_update_seq (Heap.get?_push_size _ rfl) _) (show wpAny _ _ (pure ((#[] : Array Value) ++ vs.toArray).toList) Q E _ from ?_))
  rw [show ((#[] : Array Value) ++ vs.toArray).toList = vs by simp]
  exact wpAny_pure h
end
end DL

set_option Elab.async false
set_option linter.all false
set_option maxRecDepth 100000
set_option maxHeartbeats 1000000
namespace DL
open PySem L2 PySem.Spec PyProof.Rows PySem.W
variable {M : Md}
/-! ### sorted of a tuple, of a list -/
theorem sorted_tupS {prog : Program} {w : World} {A : Around} {E : Value → Shared → Prop} {s : Shared} {l : Addr} {vs : List Value} {Q : Value → Shared → Prop} (hl : IsTup s.heap l vs.toArray) (hL : vs.length ≤ sizeLine)
    (body : ∀ E' : Value → Shared → Prop, wpAny (model prog w) A.in1.in1 (Builtin.«list.sort» ⟨[.ref (s.heap.objs.size + 1)], []⟩) (fun f s' => f = .done (.ret .none) ∧ Q (.ref (s.heap.objs.size + 1)) s') E' { s with heap := copyHeap s.heap vs }) : wpAny (model prog w) A (call (.builtin "sorted") [.ref l]) Q E s := by
  refine call_function_entry_kw kind_sorted plain_sorted entry_sorted (args_sorted1 _) ?_
  unfold Builtin.«sorted»
  refine wpAny_bind (m := checkCount "sorted" 1 1 _) (wpAny_pure (wpAny_bind (collect_tup hl (wpAny_bind (wpAny_newList ?_ hL)) hL)))
  have hsz : ((s.heap.push (seqObj "list" #[] 0)).update s.heap.objs.size (Obj.mapSeq (· ++ vs.toArray))).objs.size = s.heap.objs.size + 1 := by rw [Heap.size_update, size_push']
  show wpAny _ _ _ _ _ { s with heap := copyHeap s.heap vs }
  rw [hsz]
  refine wpAny_bind (wpAny_holding (wpAny_call_entry_kw slot_list_sort ⟨_, copyHeap_at s.heap vs, rfl⟩ entry_list_sort ?_ (args_list_sort _)))
  show wpAny (model prog w) A.in1.in1 (Builtin.«list.sort» ⟨[.ref (s.heap.objs.size + 1)], []⟩) _ _ _
  exact wpAny_mono (body _) (fun f s' ⟨e, hq⟩ => by subst e; exact ⟨_, rfl, wpAny_pure ⟨_, rfl, hq⟩⟩) fun _ _ e => e
theorem sorted_dataT {prog : Program} {w : World} {A : Around} {E : Value → Shared → Prop} {s : Shared} {β : Type} {vs : List Value} {bs : List β} {enc : β → PyData} {R : Value → β → Prop} {l : Addr} {Q : Value → Shared → Prop} (hl : IsTup s.heap l vs.toArray) (e : EachIs R vs bs)
    (er : EachIs (fun v b => ∃ as, Reads s.heap v (enc b) as) vs bs) (hal : AllAlike (bs.map enc)) (hk : Sortable (bs.map enc)) (hL : bs.length ≤ sizeLine) (hu : ∀ b, b ∈ bs → A.units + 2 + (enc b).depth < cLine)
    (h : ∀ out, out.length = bs.length → EachIs R out (bs.mergeSort (dataLe false enc)) → Q (.ref (s.heap.objs.size + 1)) { s with heap := sortedAll s.heap vs (List.toArray out) }) : wpAny (model prog w) A (call (.builtin "sorted") [.ref l]) Q E s := by
  have er' : EachIs (fun v b => ∃ as, Reads (sortingHeap (copyHeap s.heap vs) (s.heap.objs.size + 1) vs) v (enc b) as) vs bs := er.mono fun _ _ ⟨as, r⟩ => ⟨as, PyProof.Rows.Reads.keeps (fun _ _ => sorting_copy_old) r⟩
  have hv : vs.length ≤ sizeLine := by rw [e.length]; exact hL
  exact sorted_tupS hl hv fun _ => list_sort_vals (s := { s with heap := copyHeap s.heap vs }) (copyHeap_at s.heap vs) (SortsAt.data (s := { s with heap := sortingHeap (copyHeap s.heap vs) (s.heap.objs.size + 1) vs }) (each_map (R := fun v d => ∃ as, Reads (sortingHeap (copyHeap s.heap vs) (s.heap.objs.size + 1) vs) v d as) enc er') hal hk (bound_map hu)) hv
    ⟨rfl, h _ (by rw [sortVals_length false rfl]; exact e.length) (sortVals_data false e er' hal)⟩
def fSortedT : FC
  | [.lst ds], Q => sortOk ds = true ∧ Q (.lst (sortD ds))
  | [.tup ds], Q => sortOk ds = true ∧ Q (.lst (sortD ds))
  | _, _ => False
theorem call_sortedT {X : Cx} (hu : X.A.units + 100 < cLine) : CallR X (.builtin "sorted") (rcOf X.md fSortedT) := by
  rintro pins s σ H xs us Q I r ⟨R, Fz, B, ds, Qd, w, h, hf, k⟩
  unfold fSortedT at hf
  split at hf
  · rename_i ds
    obtain ⟨h1, hf⟩ := hf
    obtain ⟨z1, z2, z3⟩ := sortOk_ok h1
    exact call_sortedD hu pins s σ H xs us Q I r ⟨R, Fz, B, [.lst ds], Qd, w, h, ⟨z1, z2, z3, hf⟩, k⟩
  · rename_i ds
    obtain ⟨h1, hf⟩ := hf
    obtain ⟨hp, hal, hk⟩ := sortOk_ok h1
    cases h with
    | cons h t => cases t; cases r with
      | cons r rt => cases rt; cases h with
        | tup hs ha =>
          cases r
          obtain ⟨its, rv, hT, hz⟩ := I.tuple (w.ex.st hs.st)
          refine sorted_dataT (R := fun u d => ∃ v, L2.RelV v u ∧ Dp X.md B v d) (bs := ds) (enc := D.py) (vs := its) hT (each_of (R := fun (_ : Unit) (_ : Unit) => True) ha rv fun v d u h1 h2 _ => ⟨v, h2, h1⟩)
            (each_of (R := fun (_ : Unit) (_ : Unit) => True) ha rv fun v d u h1 h2 m => L2.Dp.reads I d.py v u (dp2_mono w.ex (h1.py (hp d m).1)) h2) hal hk (by rw [← ha.length]; exact hz) (fun d m => by have := (hp d m).2; omega) fun out hl he => ?_
          obtain ⟨vs', r', h'⟩ := of_each he
          obtain ⟨c, hc'⟩ := sortedAll_at s.heap its out.toArray
          have hf' : H (s.heap.objs.size + 1) = none := I.hok.fresh (Nat.le_succ _)
          refine ⟨.ref (s.heap.objs.size + 1), upd H (s.heap.objs.size + 1) (.lst vs'), I.laid (t' := s.toks) (fun _ _ => sortedAll_old) (Nat.le_succ _) ⟨by rw [r'.length, hl, ← ha.length]; exact hz, out, c, r', hc'⟩, rfl, k _ _ _ _ (Ex.new (w.free hf')) (w.new hf') (.lst upd_same (h'.mono (Ex.new (w.free hf')))) hf⟩
  · exact hf.elim
def oSortedT : OC
  | [.lst ds] => if sortOk ds = true then some (.lst (sortD ds)) else none
  | [.tup ds] => if sortOk ds = true then some (.lst (sortD ds)) else none
  | _ => none
theorem cf_sortedT : CallF fSortedT oSortedT := by
  intro xs z Q h q
  unfold oSortedT at h
  split at h
  · obtain ⟨h1, rfl⟩ := if_some h; exact ⟨h1, q⟩
  · obtain ⟨h1, rfl⟩ := if_some h; exact ⟨h1, q⟩
  · cases h
section
variable {X : Cx} {W : WX} {a b e : Expr} {es : List Expr} {pos : Pos} {mr : FA} {ma mb m : FE}
theorem me_sortedT {p : Pos} (hu : X.A.units + 100 < cLine) (hg : Gl X "sorted") (hm : X.mg "sorted" = none) (ha : MA X W [e] mr) (he : starEach [e] X.env = (false, eval e X.env) :: starEach [] X.env := by rfl) : ME X W (.Call (.Name "sorted" p) [e] [] pos) (mCB oSortedT mr) :=
  me_cb cf_sortedT (de_callB (call_sortedT hu) rcOf_ok hg hm (by decide +kernel) ha (he := he))
/-! ### an int and a truth value -/
theorem same_refl_sub : reflectedDiffers (.type "int") (.type "bool") "sub" = pure false := by
  unfold reflectedDiffers
  show (typeLookup (.type "bool") (dunderR "sub") >>= fun rb => typeLookup (.type "int") (dunderR "sub") >>= fun ra => pure (rb.isSome && rb != ra)) = pure false
  rw [typeLookup_type, typeLookup_type, builtinLookup_eq_fast]; kernel_rfl
def bI (b : Bool) : Int := if b = true then 1 else 0
def fSubB : F2
  | .int i, .int j, Q => Q (.int (i - j))
  | .int i, .bl b, Q => Q (.int (i - bI b))
  | _, _, _ => False
def rSubB : R2 := fun x y H Q => ∃ i b, x = .int i ∧ y = .bl b ∧ Q (.int (i - bI b)) H
theorem op_subB : OpR X (binaryOp .Sub) rSubB := by
  rintro pins s σ H x y u v Q I rx ry ⟨i, b, rfl, rfl, q⟩
  obtain ⟨t, rfl⟩ := (show ∃ t, u = Value.int i t from rx)
  cases (show v = Value.bool b from ry)
  exact binaryOp_sub_gives (op := .Sub) (T := "int") (U := "bool") (by decide) (typeIs_int s i t) rfl F.fills_int_sub F.fills_bool_sub isSubtype_bool_int same_refl_sub F.slot_int_sub F.entry_int_sub (F.args_int_sub_2 _ _) (AutoIntG7.int___sub___int_bool_0 i t b) trivial ⟨.int (i - bI b), H, I.tok _, ⟨_, rfl⟩, q⟩
theorem opSubAll : OpR X (binaryOp .Sub) (fun x y H Q => (rI0 fun i j => .int (i - j)) x y H Q ∨ rSubB x y H Q) := op_sub.or op_subB
theorem fSubB_ok : OpD M (fun x y H Q => (rI0 fun i j => .int (i - j)) x y H Q ∨ rSubB x y H Q) fSubB := by
  intro R Fz B H x y dx dy Qd Q w hx hy h k
  unfold fSubB at h
  split at h
  · cases hx; cases hy; exact .inl ⟨_, _, rfl, rfl, k _ H B _ (Ex.refl B) w (.int _) h⟩
  · cases hx; cases hy; exact .inr ⟨_, _, rfl, rfl, k _ H B _ (Ex.refl B) w (.int _) h⟩
  · exact h.elim
def oSubB : O2
  | .int i, .int j => some (.int (i - j))
  | .int i, .bl b => some (.int (i - bI b))
  | _, _ => none
theorem of_subB : OpF fSubB oSubB := by
  intro x y z Q h q
  unfold oSubB at h
  split at h
  · cases h; exact q
  · cases h; exact q
  · cases h
theorem me_subB (ha : ME X W a ma) (hb : ME X W b mb) : ME X W (.BinOp a .Sub b pos) (mBin oSubB ma mb) := me_bin of_subB (de_bin opSubAll fSubB_ok ha hb)
/-! ### name.extend(e) -/
def lstD : D → Option (List D)
  | .lst ds => some ds
  | _ => none
theorem lstD_eq {d : D} {ds : List D} (h : lstD d = some ds) : d = .lst ds := by cases d <;> first | (cases h; done) | (cases h; rfl)
def mExt (i : Nat) (m : FE) : FX := fun ρ s => (optO (ownLst ρ i) s).bind fun ds s => stE m ρ s fun d s => (optO (lstD d) s).bind fun xs s => if ds.length + xs.length ≤ sizeLine then .ok (.nx (ρ.set i (some (.own (.lst (ds ++ xs)))))) s else .err
theorem ms_ext {i : Nat} {x : Str} {px p apos : Pos} (hN : X.N[i]? = some x) (he : ME X W e m) (hv : Vis X.env.scope x := by first | exact Or.inl rfl | exact Or.inr (Or.inl rfl) | exact Or.inr (Or.inr rfl)) (hd : (x == ("__debug__" : Str)) = false := by decide)
    (hcd : (x == ("__classdict__" : Str)) = false := by decide) (hline : (apos.endLine == p.line) = true := by rfl) (h1 : starEach [e] X.env = (false, eval e X.env) :: starEach [] X.env := by rfl)
    (hs : swapsWith (.Call (.Attribute (.Name x px) "extend" apos) [e] [] p) none pos.line X.env = pure false := by rfl) : MS X W (.Expr (.Call (.Attribute (.Name x px) "extend" apos) [e] [] p) pos) (mExt i m) := by
  refine (ps_expr (pe_bm PySem.F.plainAttrs_list PySem.F.slot_list_extend PySem.F.type_list_extend mt_extend (pe_var hN hv hd hcd) (pa_cons he pa_nil h1) (hline := hline) (hs := h1) (hfew := by rw [h1]; rfl)) hs).imp fun En σ H ⟨R, F0, B, Fz, ρ, De, s, ⟨st, hst, q⟩, x⟩ => ?_
  subst hst
  obtain ⟨ds, hi, q⟩ := post_opt ((Out.post_bind _).mp q)
  have hi := ownLst_eq hi
  obtain ⟨l, o, q1, q2, q3, vs, rfl, hv⟩ := s.own i _ hi
  refine ⟨_, q1, .inl ⟨rfl, vs, SqL.of (s.wd.fz _ _ q3)⟩, ?_⟩
  refine ⟨_, Fz, B, ρ, _, _, s.wd, s.sl, stE_cps (Q := fun R d => ∃ xs, d = .lst xs ∧ ds.length + xs.length ≤ sizeLine ∧ De.nx R (ρ.set i (some (.own (.lst (ds ++ xs)))))) q (fun d s1 h1 => ?_), fun R v H' B' d e w h ⟨xs, hd, hz, q4⟩ => ?_, x.xl s⟩
  · obtain ⟨xs, hx, q5⟩ := post_opt ((Out.post_bind _).mp h1)
    by_cases z : ds.length + xs.length ≤ sizeLine
    · rw [if_pos z] at q5; exact ⟨xs, lstD_eq hx, z, q5⟩
    · rw [if_neg z] at q5; exact q5.elim
  · subst hd
    have s' := s.grow e w
    cases h with
    | @lst b us _ hB hus =>
      refine ⟨l, b, vs, us, rfl, rfl, w.fz _ _ q3, w.ex _ _ hB, by rw [hv.length, hus.length]; exact hz, ?_⟩
      exact x.nx R _ _ B' _ _ e (s'.turn hi q1 q3 q2 ((hv.mono e).append hus)) q4
end
end DL

set_option Elab.async false
set_option linter.all false
set_option maxRecDepth 100000
set_option maxHeartbeats 1000000
namespace DL
open PySem L2 PySem.Spec PyProof.Rows
variable {M : Md}
/-! ### the draws as functions -/
def c_law_next : FF := fun ds s => match ds, s.dr with
  | [.ref a', .int k], some (a, n) => if a' = a ∧ 1 ≤ k ∧ k < 1000000 ∧ n < 10 ^ 15 then .draw k fun r => .ok (.int r) { s with dr := some (a, n + 1) } else .err
  | _, _ => .err
def intsD : List D → Option (List Int)
  | [] => some []
  | .int i :: r => (intsD r).map (i :: ·)
  | _ :: _ => none
theorem intsD_eq : ∀ {ds : List D} {ns : List Int}, intsD ds = some ns → ds = ns.map D.int
  | [], _, h => by cases h; rfl
  | d :: r, ns, h => by
    cases d <;> first | (cases h; done) | skip
    rename_i i
    unfold intsD at h
    cases q : intsD r with
    | none => rw [q] at h; cases h
    | some ms =>
      rw [q] at h
      cases h
      rw [intsD_eq q]; rfl
def c_law_begun : FF := fun ds s => match ds, s.dr with
  | [.frl xs], none => match intsD xs with
    | some ns => if ns.length ≤ 63 then .anyA fun a => .ok (.ref a) { s with dr := some (a, 0) } else .err
    | none => .err
  | _, _ => .err
theorem spF_next {R : Res} {ds : List D} {Q : DQ} {E : DX} (h : spF M c_law_next R ds Q E) : spNext R ds Q E := by
  obtain ⟨s, rfl, h⟩ := h
  unfold c_law_next at h
  split at h
  · rename_i a' k a n hs
    split at h
    · rename_i hc
      obtain ⟨rfl, h1, h2, h3⟩ := hc
      refine ⟨a', n, k, obsR M s.ob, ?_, rfl, h1, h2, h3, fun r h0 hk => h r h0 hk⟩
      unfold resOf
      rw [hs]; rfl
    · exact h.elim
  · exact h.elim
theorem spF_begun {R : Res} {ds : List D} {Q : DQ} {E : DX} (h : spF M c_law_begun R ds Q E) : spBegun R ds Q E := by
  obtain ⟨s, rfl, h⟩ := h
  unfold c_law_begun at h
  split at h
  · rename_i xs hs
    split at h
    · rename_i ns hn
      split at h
      · rename_i hl
        refine ⟨ns, obsR M s.ob, ?_, by rw [intsD_eq hn], hl, fun a => h a⟩
        unfold resOf
        rw [hs]; rfl
      · exact h.elim
    · exact h.elim
  · exact h.elim
section
variable {P : Program} {w : World} {K : PySem.W.Frag} {mg : Str → Option Value} {base : Heap}
theorem FnG.imp {CX : CXT} {k : Nat} {f : Addr} {fd : FuncData} {ps : List Str} {sp sp' : Sp} (F : FnG P w K mg base CX k f fd ps sp) (h : ∀ vs H Q E, sp' vs H Q E → sp vs H Q E) : FnG P w K mg base CX k f fd ps sp' :=
  ⟨fun vs H Q E z => F.len vs H Q E (h _ _ _ _ z), fun A fs s H ar us vs Q E hr hg e0 hb r z => F.go A fs s H ar us vs Q E hr hg e0 hb r (h _ _ _ _ z)⟩
theorem spL.imp {sp sp' : DSp} (h : ∀ R ds Q E, sp' R ds Q E → sp R ds Q E) {vs : List V} {H : Hp} {Q : VK} {E : XK} (z : spL M sp' vs H Q E) : spL M sp vs H Q E :=
  let ⟨R, Fz, B, ds, Qd, Ed, wd, hd, hs, k, x⟩ := z
  ⟨R, Fz, B, ds, Qd, Ed, wd, hd, h _ _ _ _ hs, k, x⟩
theorem OkG.imp {k : Nat} {x : Str} {ps : List Str} {sp sp' : DSp} (h : OkG P w K mg base k x ps sp) (f : ∀ R ds Q E, sp' R ds Q E → sp R ds Q E) : OkG P w K mg base k x ps sp' :=
  let ⟨a, fd, h1, h2, h3, F⟩ := h
  ⟨a, fd, h1, h2, h3, F.imp fun _ _ _ _ z => spL.imp f z⟩
/-! ### methods, makers -/
def MetAt (K : PySem.W.Frag) (mg : Str → Option Value) (c m q : Str) (st : Stmt) : Prop := ∃ (C f : Addr) (fd : FuncData), mg c = some (.ref C) ∧ Cls K C ∧ Meth K C m f ∧ Fun K m q st f fd
def MkAt (K : PySem.W.Frag) (mg : Str → Option Value) (c q : Str) (st : Stmt) : Prop := ∃ (C f : Addr) (fd : FuncData), mg c = some (.ref C) ∧ Mk K C f ∧ Fun K "__init__" q st f fd
theorem okFM {c x q : Str} {st : Stmt} {N ps : List Str} {k : Nat} {m : FX} (F : MetAt K mg c x q st) (S : FnScope N ps (defScope st))
    (bnd : ∀ (kV doc pm : Value) (an : Option Addr) (cdv ct : Value) (us : List Value), us.length = ps.length → bindArgs (PySem.W.fnOf x q (defArgs st) (defBody st) (defScope st) .none kV doc pm an cdv ct) ⟨us, []⟩ = pure (ps.zip us))
    (hbody : ∀ (f : Addr) (cdv : Value) (A : Around) (outer : List PySem.Env) (s : Shared) (H : Hp) (E : XK), Room k (A.deeper (PyProof.Rows.envOfC q (defScope st) s.heap.objs.size f cdv)) → A.guards = some [] →
      MSs (cxOf (L2.CX P w) P w K mg base N q (defScope st) f cdv A outer s H E) (fun cls d _ H => E cls d H) (defBody st) m) : OkM P w K mg base (k + 1) c x ps (spF ⟨K, mg, w⟩ (callF ps.length N.length m)) := by
  obtain ⟨C, f, fd, hC, hcl, hm, F⟩ := F
  exact ⟨C, f, fd, hC, hcl, hm, F.binds bnd, fn_gd F S (fun R ds Q E h => spF_len h) fun cdv A outer s H E hr hgd => ⟨cpsS ⟨K, mg, w⟩ m, hbody f cdv A outer s H E hr hgd, fun R ds Q E h => vcF R ds Q E h⟩⟩
theorem okFC {c q : Str} {st : Stmt} {N ps : List Str} {k : Nat} {m : FX} (F : MkAt K mg c q st) (S : FnScope N ps (defScope st))
    (bnd : ∀ (kV doc pm : Value) (an : Option Addr) (cdv ct : Value) (us : List Value), us.length = ps.length → bindArgs (PySem.W.fnOf "__init__" q (defArgs st) (defBody st) (defScope st) .none kV doc pm an cdv ct) ⟨us, []⟩ = pure (ps.zip us))
    (hbody : ∀ (f : Addr) (cdv : Value) (A : Around) (outer : List PySem.Env) (s : Shared) (H : Hp) (E : XK), Room k (A.deeper (PyProof.Rows.envOfC q (defScope st) s.heap.objs.size f cdv)) → A.guards = some [] →
      MSs (cxOf (L2.CX P w) P w K mg base N q (defScope st) f cdv A outer s H E) (fun cls d _ H => E cls d H) (defBody st) m) : OkC P w K mg base (k + 1) c ps (spF ⟨K, mg, w⟩ (callF ps.length N.length m)) := by
  obtain ⟨C, f, fd, hC, hm, F⟩ := F
  exact ⟨C, f, fd, hC, hm, F.binds bnd, fn_gd F S (fun R ds Q E h => spF_len h) fun cdv A outer s H E hr hgd => ⟨cpsS ⟨K, mg, w⟩ m, hbody f cdv A outer s H E hr hgd, fun R ds Q E h => vcF R ds Q E h⟩⟩
end
end DL

set_option Elab.async false
set_option linter.all false
namespace DL
open PySem L2
/-! ### what the text's classes are -/
def exNames : List Str := ["BadNames", "BadPaper", "BadRoll", "BadRule", "BadCourse", "BadKinds", "BadQuestion", "BadAnswer", "BadNumber", "BadText", "TooMany"]
def exFields : List Str := ["value", "value", "place", "place", "value", "value", "value", "place", "value", "line", "most"]
def attX (c n : Str) : Bool := (exNames.zip exFields).contains (c, n)
def exS (c x : Str) : Option Bool := if exNames.contains c then (if exNames.contains x then some (c == x) else if x == "VoteError" then some (c != "TooMany") else none) else none
def fieldsOf (c : Str) : List Str :=
  if c == "Rule" then ["names", "seats", "quota", "over", "hand", "order"]
  else if c == "Roll" then ["names", "papers"]
  else if c == "Count" then ["own_rule", "own_total", "going", "left", "worths", "course"]
  else if c == "Walk" then ["own_rule", "own_kinds", "going", "worths"]
  else if c == "Sheet" then ["lines", "held", "divisor"]
  else if c == "Asking" then ["own_rolls", "own_rules", "own_rows", "own_last"]
  else if c == "Tally" then ["own_rule", "own_roll", "own_steps", "own_past"]
  else if c == "Trial" then ["held_tally", "roll_ahead", "steps_ahead", "past_ahead"]
  else []
def attO (c n : Str) : Bool := (fieldsOf c).contains n
def tyNames : List String := ["NoneType", "bool", "int", "str", "tuple", "list", "dict"]
def clNames : List Str := ["Rule", "Roll", "Tally"]
def isiS : Tg → D → Option Bool
  | .inl t, .ty T => if tyNames.contains t && tyNames.contains T && T != "NoneType" then some (isiB t T) else none
  | .inl t, .cls c => if tyNames.contains t && clNames.contains c then some false else none
  | .inr x, .ty T => if clNames.contains x && tyNames.contains T && T != "NoneType" then some false else none
  | .inr x, .cls c => if clNames.contains x && clNames.contains c then some (x == c) else none
  | _, _ => none
end DL

set_option Elab.async false
set_option linter.all false
set_option maxRecDepth 100000
set_option maxHeartbeats 1000000
namespace DL
open PySem L2 PySem.Spec PyProof.Rows
/-! ### lambdas -/
/-- a table of code objects by what is in the heap -/
def TabH (H : Hp) (ps : Array Value) (q : Str) : Prop := TriplesOk ps.toList ∧ ∀ (pos : Pos) (cv : Value), codeAmong pos ps.toList = some cv → ∃ c, cv = .ref c ∧ H c = some (LamX.CodeO c q)
/-- what the making of a lambda does to the known part: nothing, or one line more in the table -/
def Grew (B H H1 : Hp) (P c' : Addr) (ps : Array Value) (q : Str) : Prop :=
  (H1 = H ∧ B c' = some (LamX.CodeO c' q)) ∨ (H c' = none ∧ ∃ ps' : Array Value, H1 = upd (upd H P (.tbl ps')) c' (LamX.CodeO c' q) ∧ TriplesOk ps'.toList ∧ ∀ (pos : Pos) (cv : Value), codeAmong pos ps'.toList = some cv → codeAmong pos ps.toList = some cv ∨ cv = .ref c')
section
variable {X : Cx} {pins : List (Addr × Obj)} {σ : L2.St} {H : Hp} {s : Shared}
theorem new_nofr (I : Inv X pins σ H s) {f : Addr} (hf : s.heap.objs.size ≤ f) : f ∉ frs X.stack := fun z => by
  rcases List.mem_cons.mp (I.stkSub _ z) with e | e
  · have h1 := I.lt
    rw [← e] at h1
    exact Nat.lt_irrefl _ (Nat.lt_of_lt_of_le h1 hf)
  · exact I.nofs hf e
theorem lam_mk {B : Hp} {c P : Addr} {ps : Array Value} {params : Arguments} {body : Expr} {scope : Scope} {pos : Pos} {E : Value → Shared → Prop} {Q : Value → Shared → Prop} (I : Inv X pins σ H s) (TB : LamX.TabB X.base X.mg c P) (hcode : X.env.code = .ref c)
    (hP : H P = some (.tbl ps)) (hT : TabH B ps (X.env.qual ++ "<lambda>")) (hdef : defaultsOf params X.env = ([], [])) (hfree : ∀ y ∈ scope.names, y.2 = .free → ∃ c, X.env.cells.lookup y.1 = some c)
    (h : ∀ (f c' : Addr) (pm ctv : Value) (H1 : Hp) (s' : Shared), Inv X pins σ H1 s' → Grew B H H1 P c' ps (X.env.qual ++ "<lambda>") →
      s'.heap.get? f = some (PySem.W.kla_obj "<lambda>" (X.env.qual ++ "<lambda>") params body scope (cloFrom X.env.cells scope.names []) pm c' ctv) → H1 f = none → f ∉ frs X.stack → Q (.ref f) s') :
    wpAny (model X.prog X.w) X.A (eval (.Lambda params body scope pos) X.env) Q E s := by
  have hP' : s.heap.get? P = some { cls := .none, data := .fields ps } := I.hok P _ hP
  have bP := TB.bm.keeps I.bk
  refine PySem.W.kla_eval hdef ?_
  cases hc : codeAmong pos ps.toList with
  | some cv =>
    obtain ⟨c', rfl, hco⟩ := hT.2 pos cv hc
    refine PySem.W.kla_makeFunctionHit (mg := X.mg) (c := c) (P := P) (ps := ps) (closure_ok hfree) I.ok.glob (I.mod.glob.keeps I.bk) hcode (TB.code.keeps I.bk) hP' hT.1 hc bP fun ctv h' tk hx hsz => ?_
    exact h h'.objs.size c' _ ctv H _ (I.kept fun b o e => Heap.get?_push_of_some _ (hx b o e)) (.inl ⟨rfl, hco⟩) (Heap.get?_push_size _ rfl) (I.hok.fresh hsz) (new_nofr I hsz)
  | none =>
    refine PySem.W.kla_makeFunction (mg := X.mg) (c := c) (P := P) (ps := ps) (closure_ok hfree) I.ok.glob (I.mod.glob.keeps I.bk) hcode (TB.code.keeps I.bk) hP' hT.1 hc TB.gP bP fun c' ctv h' tk hx hge hlt hrec htb => ?_
    obtain ⟨c2, oc, vs, t, e2, hoc, hd, hv⟩ := hrec
    cases e2
    have hsz : s.heap.objs.size ≤ h'.objs.size := Nat.le_trans hge (Nat.le_of_lt hlt)
    have I1 := LamX.inv_table (t' := tk) (q := X.env.qual ++ "<lambda>") (more := #[rawInt pos.line, rawInt pos.col, .ref c']) (h' := h'.push (PySem.W.kla_obj "<lambda>" (X.env.qual ++ "<lambda>") params body scope (cloFrom X.env.cells scope.names []) ((X.mg "__name__").getD .none) c' ctv)) I hP
      (fun b o hb e => Heap.get?_push_of_some _ (hx b o hb e)) (Heap.get?_push_of_some _ htb) hge ⟨oc, vs, t, Heap.get?_push_of_some _ hoc, hd, hv⟩
    have eL : (ps ++ #[rawInt pos.line, rawInt pos.col, .ref c']).toList = ps.toList ++ [rawInt pos.line, rawInt pos.col, .ref c'] := by simp
    refine h h'.objs.size c' _ ctv _ _ I1 (.inr ⟨I.hok.fresh hge, _, rfl, by rw [eL]; exact PySem.TriplesOk_snoc _ _ _ _ hT.1, fun p' cv hcv => ?_⟩) (Heap.get?_push_size _ rfl) ?_ (new_nofr I hsz)
    · rw [eL] at hcv
      exact LamX.among_app _ hT.1 hcv
    · rw [upd_ne (Nat.ne_of_gt hlt), upd_ne (Nat.ne_of_gt (Nat.lt_of_lt_of_le (Heap.lt_size hP') hsz))]
      exact I.hok.fresh hsz
/-- the table stays a table; the code object goes to the data -/
theorem Grew.wd {M : Md} {B Fz H H1 : Hp} {P c' : Addr} {ps : Array Value} {q : Str} {S : Res} {G1 G2 : Hp} (o : Opened (objR M P (.own (.str q))) S B Fz H G1 G2) (hG : G1 P = some (.tbl ps)) (hT : TabH B ps q) (g : Grew B H H1 P c' ps q) :
    ∃ B1, Ex B B1 ∧ B1 c' = some (LamX.CodeO c' q) ∧ Wd ((objR M P (.own (.str q))).star S) B1 Fz H1 := by
  rcases g with ⟨e, hc⟩ | ⟨hn, ps', e, t1, t2⟩
  · subst e; exact ⟨B, Ex.refl B, hc, o.wd⟩
  · have nP : P ≠ c' := ne_of_none (o.e1 _ _ hG) hn
    have eB : Ex B (upd B c' (LamX.CodeO c' q)) := Ex.new (o.ex.free hn)
    have eH : H1 = upd (upd H c' (LamX.CodeO c' q)) P (.tbl ps') := by
      rw [e]; funext b
      by_cases h1 : b = P
      · subst h1; rw [upd_same, upd_ne nP, upd_same]
      · by_cases h2 : b = c'
        · subst h2; rw [upd_same, upd_ne h1, upd_same]
        · rw [upd_ne h2, upd_ne h1, upd_ne h1, upd_ne h2]
    obtain ⟨K1, K2, o1⟩ := (o.wd.new (p := c') (o := LamX.CodeO c' q) hn).opened
    have r1 := o1.r1
    have hK : ∃ ps0, K1 P = some (.tbl ps0) := let ⟨ps0, h, _⟩ := r1; ⟨ps0, h⟩
    obtain ⟨ps0, hK⟩ := hK
    have e0 : ps0 = ps := by
      have a1 := o1.e1 _ _ hK
      rw [upd_ne nP, o.e1 _ _ hG] at a1
      cases a1; rfl
    have o2 := o1.turn (R' := objR M P (.own (.str q))) (o := .tbl ps') hK ⟨ps', upd_same, t1, fun pos cv hcv => by
      rcases t2 pos cv hcv with z | z
      · obtain ⟨c, e1, e2⟩ := hT.2 pos cv z; exact ⟨c, e1, eB _ _ e2⟩
      · exact ⟨c', z, upd_same⟩⟩
    exact ⟨_, eB, upd_same, by rw [eH]; exact o2.wd⟩
end
end DL

set_option Elab.async false
set_option linter.all false
set_option maxRecDepth 100000
set_option maxHeartbeats 1000000
namespace DL
open PySem L2 PySem.Spec PyProof.Rows
namespace Out
variable {α β : Type}
def anyC (f : Cap → Out α) : Out α := ⟨fun Q E => ∀ a, (f a).post Q E, fun h1 h2 q a => (f a).mono h1 h2 (q a)⟩
theorem anyC_const (x : Out α) : (anyC fun _ => x) = x := ext' fun _ _ => ⟨fun h => h default, fun h _ => h⟩
/-- if so -/
def iff (p : Prop) (x : Out α) : Out α := ⟨fun Q E => p ∧ x.post Q E, fun h1 h2 q => ⟨q.1, x.mono h1 h2 q.2⟩⟩
theorem iff_true {p : Prop} (h : p) (x : Out α) : iff p x = x := ext' fun _ _ => ⟨fun h => h.2, fun z => ⟨h, z⟩⟩
end Out
/-- x(): the slot holds the closure -/
def mAct (i : Nat) (f : Addr) (c : Cap) (th : Ds → Out D) : FE := fun ρ s => .iff (ρ[i]? = some (some (.clo f c))) (th s)
section
variable {X : Cx} {pins : List (Addr × Obj)} {σ : L2.St} {H HZ : Hp} {s s1 : Shared}
/-- follows the kit's LamX.pe_act; here what an error asks may hang on the caller's slots -/
theorem pe_actS {CXg : CXT} {Eg : XK} {Ng : List Str} {qg : Str} {sg : Scope} {g f c' : Addr} {cdg pm ctv : Value} {params : Arguments} {body : Expr} {scope : Scope} {k i : Nat} {a : Str} {pn : List (Addr × Obj)} {xe : Value → Shared → Prop} {W : WX} {tb : XK → TE} {p1 p2 : Pos}
    (I : Inv X pins σ H s) (L : LamX.LamS X.env.scope scope) (hf : s.heap.get? f = some (PySem.W.kla_obj "<lambda>" (X.env.qual ++ "<lambda>") params body scope (cloFrom X.env.cells scope.names []) pm c' ctv)) (hfn : H f = none) (hfr : f ∉ frs X.stack)
    (hbind : bindArgs (PySem.W.kla_fn "<lambda>" (X.env.qual ++ "<lambda>") params body scope (cloFrom X.env.cells scope.names []) pm (.ref c') ctv) ⟨[], []⟩ = pure [])
    (tk : Takes ((cxOf CXg X.prog X.w X.K X.mg X.base Ng qg sg g cdg X.A X.stack s H Eg).tr pn xe) W) (hr : Room (k + 1) (X.A.deeper (envOfC qg sg s.heap.objs.size g cdg))) (hgd : X.A.guards = some [])
    (hbody : ∀ (E : XK) (A : Around) (outer : List PySem.Env) (s : Shared) (H : Hp), Room k (A.deeper (LamX.lamEnv X scope s.heap.objs.size f c')) → A.guards = some [] → PE (LamX.lamCx X A outer s H E scope f c') body (tb E))
    (hN : Ng[i]? = some a) (hv : Vis sg a) (hd : (a == ("__debug__" : Str)) = false := by decide) (hcd : (a == ("__classdict__" : Str)) = false := by decide) :
    PE ((cxOf CXg X.prog X.w X.K X.mg X.base Ng qg sg g cdg X.A X.stack s H Eg).tr pn xe) (.Call (.Name a p1) [] [] p2)
      (fun σZ HZ Q => σZ[i]? = some (some (.ref f)) ∧ HZ c' = some (LamX.CodeO c' (X.env.qual ++ "<lambda>")) ∧ tb (WE W σZ) σ HZ Q) := by
  refine ⟨fun pinsZ sZ σZ HZ Q IZ h => ?_⟩
  obtain ⟨hs, hc, ht⟩ := h
  refine wpAny_Call_Name_kw (thn ((pe_var (pos := p1) (i := i) hN hv hd hcd).run pinsZ sZ σZ HZ (fun v H1 => v = .ref f ∧ H1 = HZ) IZ ⟨.ref f, hs, rfl, rfl⟩) fun u s1 ⟨v, H1, I1, r1, q1⟩ => ?_)
  obtain ⟨ev, eH⟩ := q1
  subst ev
  rw [eH] at I1
  obtain rfl : u = Value.ref f := r1
  have of1 : s1.heap.get? f = some (PySem.W.kla_obj "<lambda>" (X.env.qual ++ "<lambda>") params body scope (cloFrom X.env.cells scope.names []) pm c' ctv) := I1.base.keep f _ hf hfn hfr (fun z => nomatch (show f ∈ ([] : List Addr) from z))
  refine PySem.W.callWith_F0 ⟨_, _, _, _, of1⟩ ?_
  have un : Un (frs X.stack) [] H HZ s.heap s1.heap := I1.base
  obtain ⟨⟨oc, vs, t, hoc, hdc, hvc⟩, _, _⟩ := I1.hok c' _ hc
  have rc : codeAny (model X.prog X.w) (X.A.deeper (envOfC qg sg s.heap.objs.size g cdg)) (.call (.ref f) ⟨[], []⟩) (CR (L2.CX X.prog X.w) (envOfC qg sg s.heap.objs.size g cdg :: X.stack) X.prog X.w HZ s1 Q (WE W σZ)) s1 := by
    refine PySem.W.kla_callFunE hr.depth of1 rfl L.co L.gen rfl ⟨c', oc, vs, t, rfl, hoc, hdc, hvc⟩ ?_
    rw [hbind]
    refine wpAny_pure (wpAny_newFunctionEnv (fun y hy => (L.own y hy).2) (fun y hy => absurd hy (by simp)) (fun h₁ hns hsb => ⟨I1.nolimit.fresh _ hsb, ?_⟩) L.kind)
    show codeAny _ _ (.expr body (LamX.lamEnv X scope s1.heap.objs.size f c')) _ _
    have kp : ∀ b o, s1.heap.get? b = some o → h₁.get? b = some o := fun b o e => hsb.extBut b o (Nat.ne_of_lt (Heap.lt_size e)) (Heap.get?_push_of_some _ e)
    have J : Inv (LamX.lamCx X (X.A.deeper (envOfC qg sg s.heap.objs.size g cdg)) (envOfC qg sg s.heap.objs.size g cdg :: X.stack) s1 HZ (WE W σZ) scope f c') [] σ HZ { s1 with heap := h₁, toks := s1.toks + ([] : List (Str × Value)).length } :=
      LamX.lam_start2 I L I1.env0 hr.hd un hns kp
    refine PySem.W.kla_codeExpr (wpAny_mono ((hbody _ _ _ s1 HZ (hr.deeper _) hgd).run [] _ _ HZ Q J ht) (fun v s' hq => ?_) fun e s' hq => hq)
    obtain ⟨w', H', J', rv, q⟩ := hq
    exact ⟨w', H', J'.os, J'.bare, J'.base, J'.hok, rv, q⟩
  refine wpAny_call (codeAny_mono rc fun r s' hq => ?_)
  cases r with
  | error e => exact passAt tk σZ pinsZ HZ s1 e s' I1 hq
  | ok fl =>
    cases fl with
    | ret u => exact I1.after hq
    | next => exact False.elim hq
    | brk => exact False.elim hq
    | cont => exact False.elim hq
theorem putL_self {a : Addr} {d : D} : ∀ {l : List (Addr × D)}, getL a l = some d → putL a d l = l
  | [], h => by cases h
  | (b, e) :: r, h => by
    unfold getL at h; unfold putL
    split at h
    · rename_i hb
      cases h
      simp [hb]
    · rename_i hb
      simp only [hb, if_false]
      rw [putL_self h]
theorem put_self {s : Ds} {a : Addr} {d : D} (h : s.get a = some d) : s.put a d = s := by
  unfold Ds.put
  rw [putL_self h]
/-- what a closure keeps: the maker's slots, its code object -/
def capOf (M : Md) (σ : L2.St) (ρ : Env) (c' : Addr) (q : Str) : Cap := ⟨fun B => Slots M B σ ρ ∧ B c' = some (LamX.CodeO c' q), fun _ _ e h => ⟨h.1.mono e, e _ _ h.2⟩⟩
theorem me_act {CXg : CXT} {Eg : XK} {Ng : List Str} {qg : Str} {sg : Scope} {g f c' : Addr} {cdg pm ctv : Value} {params : Arguments} {body : Expr} {scope : Scope} {k i : Nat} {a : Str} {pn : List (Addr × Obj)} {xe : Value → Shared → Prop} {W : WX} {mb : FE} {ρ : Env} {p1 p2 : Pos}
    (I : Inv X pins σ H s) (L : LamX.LamS X.env.scope scope) (hf : s.heap.get? f = some (PySem.W.kla_obj "<lambda>" (X.env.qual ++ "<lambda>") params body scope (cloFrom X.env.cells scope.names []) pm c' ctv)) (hfn : H f = none) (hfr : f ∉ frs X.stack)
    (hbind : bindArgs (PySem.W.kla_fn "<lambda>" (X.env.qual ++ "<lambda>") params body scope (cloFrom X.env.cells scope.names []) pm (.ref c') ctv) ⟨[], []⟩ = pure [])
    (tk : Takes ((cxOf CXg X.prog X.w X.K X.mg X.base Ng qg sg g cdg X.A X.stack s H Eg).tr pn xe) W) (hr : Room (k + 1) (X.A.deeper (envOfC qg sg s.heap.objs.size g cdg))) (hgd : X.A.guards = some [])
    (hbody : ∀ (E : XK) (A : Around) (outer : List PySem.Env) (s : Shared) (H : Hp) (f c' : Addr), Room k (A.deeper (LamX.lamEnv X scope s.heap.objs.size f c')) → A.guards = some [] → ME (LamX.lamCx X A outer s H E scope f c') (fun cls d _ H => E cls d H) body mb)
    (hN : Ng[i]? = some a) (hv : Vis sg a) (hd : (a == ("__debug__" : Str)) = false := by decide) (hcd : (a == ("__classdict__" : Str)) = false := by decide) :
    ME ((cxOf CXg X.prog X.w X.K X.mg X.base Ng qg sg g cdg X.A X.stack s H Eg).tr pn xe) W (.Call (.Name a p1) [] [] p2) (mAct i f (capOf X.md σ ρ c' (X.env.qual ++ "<lambda>")) (mb ρ)) :=
  (pe_actS (tb := fun E => lift X.md (fun cls d _ H => E cls d H) (cps X.md mb)) I L hf hfn hfr hbind tk hr hgd (fun E A outer s H r g => hbody E A outer s H f c' r g) hN hv hd hcd).imp fun σZ HZ Q ⟨R, Fz, B, ρZ, Qd, E, w, sl, ⟨sd, hR, hi, hp⟩, k, x⟩ => by
    obtain ⟨v, h1, h2⟩ := sl.get i _ hi rfl
    cases h2 with
    | clo hc =>
      exact ⟨h1, w.ex _ _ hc.2, R, Fz, B, ρ, Qd, E, w, hc.1, ⟨sd, hR, hp⟩, k, fun R c C dd H' B' vs fs m e w' hd' hf' he => x R c C dd H' B' vs fs m e w' hd' hf' he⟩
end
/-- a def whose parameter i is called: what it does, by what the call does -/
def GivesD (P : Program) (w : World) (K : PySem.W.Frag) (mg : Str → Option Value) (base : Heap) (k : Nat) (x : Str) (st : Stmt) (N : List Str) (i : Nat) (a : Str) (mf : Addr → Cap → (Ds → Out D) → FX) : Prop :=
  ∀ (g : Addr) (cdv : Value) (A : Around) (outer : List PySem.Env) (s : Shared) (H : Hp) (E : XK), Room k (A.deeper (envOfC x (defScope st) s.heap.objs.size g cdv)) → A.guards = some [] → ∀ (f : Addr) (c : Cap) (th : Ds → Out D),
    (∀ (W : WX) (pn : List (Addr × Obj)) (xe : Value → Shared → Prop) (p1 p2 : Pos), Takes ((cxOf (L2.CX P w) P w K mg base N x (defScope st) g cdv A outer s H E).tr pn xe) W →
      ME ((cxOf (L2.CX P w) P w K mg base N x (defScope st) g cdv A outer s H E).tr pn xe) W (.Call (.Name a p1) [] [] p2) (mAct i f c th)) →
    MSs (cxOf (L2.CX P w) P w K mg base N x (defScope st) g cdv A outer s H E) (fun cls d _ H => E cls d H) (defBody st) (mf f c th)
/-- a def called, in the very state: the kit's run_ofS, for a def that is known by its text -/
theorem run_gS {P : Program} {w : World} {K : PySem.W.Frag} {mg : Str → Option Value} {base : Heap} {CX : CXT} {x qual : Str} {st : Stmt} {f : Addr} {fd : FuncData} {N ps : List Str} {k : Nat} (F : Fun K x qual st f fd) (S : FnScope N ps (defScope st))
    {A : Around} {fs : List PySem.Env} {s : Shared} {H : Hp} {ar : Args} {us : List Value} {vs : List V} {Q : VK} {E : XK} (hr : Room (k + 1) A) (e0 : Env0 P w K mg base A fs s H) (hbd : BindsTo s fd ar (ps.zip us)) (rv : Vals vs us) (hl : vs.length = ps.length)
    (hb : ∀ (cdv : Value), fd.code = cdv → Room k (A.deeper (envOfC qual (defScope st) s.heap.objs.size f cdv)) → ∃ t, PSs (cxOf CX P w K mg base N qual (defScope st) f cdv A fs s H E) (defBody st) t ∧ t { nx := fun _ H' => Q .non H', rt := Q } (L2.start N vs) H) :
    codeAny (model P w) A (.call (.ref f) ar) (CR CX fs P w H s Q E) s := by
  obtain ⟨oc, od, kV, doc, pm, an, cdv, ct, osl, rfl, lk, hcd⟩ := F.ex
  exact LamX.run_ofS lk hcd S hr e0 hbd rv hl fun r => hb cdv rfl r
/-- x(lambda: body) -/
def mLam (P : Addr) (q : Str) (n : Nat) (mf : Addr → Cap → (Ds → Out D) → FX) (mb : FE) : FE := fun ρ s =>
  .iff (s.get P = some (.own (.str q))) (.anyA fun f => .anyC fun c => (mf f c (mb ρ) (startD n [.clo f c]) s).bindN flD)
section
variable {X : Cx} {W : WX}
theorem me_lam {x a q : Str} {st : Stmt} {c P : Addr} {k j : Nat} {N : List Str} {params : Arguments} {body : Expr} {scope : Scope} {mf : Addr → Cap → (Ds → Out D) → FX} {mb : FE} {p lpos pos : Pos} (F : DefAt X.K X.mg x st) (S : FnScope N [a] (defScope st))
    (bnd : ∀ (kV doc pm : Value) (an : Option Addr) (cdv ct : Value) (us : List Value), us.length = [a].length → bindArgs (PySem.W.fnOf x x (defArgs st) (defBody st) (defScope st) .none kV doc pm an cdv ct) ⟨us, []⟩ = pure ([a].zip us))
    (hG : GivesD X.prog X.w X.K X.mg X.base (k + 1) x st N 0 a mf) (hq : X.env.qual ++ "<lambda>" = q) (TB : LamX.TabB X.base X.mg c P) (hcode : X.env.code = .ref c) (hr : Room j X.A) (hj : k + 2 ≤ j) (hgd : X.A.guards = some []) (hg : Gl X x) (tk : Takes X W)
    (L : LamX.LamS X.env.scope scope) (hdef : defaultsOf params X.env = ([], []))
    (hbind : ∀ (q : Str) (cl : List (Str × Addr)) (pm cv ctv : Value), bindArgs (PySem.W.kla_fn "<lambda>" q params body scope cl pm cv ctv) ⟨[], []⟩ = pure [])
    (hbody : ∀ (E : XK) (A : Around) (outer : List PySem.Env) (s : Shared) (H : Hp) (f c' : Addr), Room k (A.deeper (LamX.lamEnv X scope s.heap.objs.size f c')) → A.guards = some [] → ME (LamX.lamCx X A outer s H E scope f c') (fun cls d _ H => E cls d H) body mb)
    (hN : N[0]? = some a) (hv : Vis (defScope st) a) (hdb : (x == ("__debug__" : Str)) = false := by decide) (hd : (a == ("__debug__" : Str)) = false := by decide) (hcd : (a == ("__classdict__" : Str)) = false := by decide) :
    ME X W (.Call (.Name x p) [.Lambda params body scope lpos] [] pos) (mLam P q N.length mf mb) := by
  subst hq
  obtain ⟨g, fd, hm, F⟩ := F
  have hr2 : Room (k + 2) X.A := hr.mono hj
  refine ⟨fun pins s σ H Q I h => ?_⟩
  obtain ⟨R, Fz, B, ρ, Qd, E, w, sl, ⟨sd, rfl, hP, hp⟩, kk, xx⟩ := h
  obtain ⟨G1, G2, o⟩ := (w.weak (pickS hP)).opened
  have r1 := o.r1
  obtain ⟨ps, hG1, hT1, hT2⟩ := r1
  refine wpAny_Call_Name_kw (ld_glob I hg hm ?_ hdb)
  refine PySem.W.callWith_K (h₀ := X.base) I.ok.mod.kin F.kp ?_ (by rfl) (by rfl)
  show wpAny _ _ (spliced ((false, eval (.Lambda params body scope lpos) X.env) :: backTo pos (starEach [] X.env))) _ _ s
  refine Calls.spliced_cons (lam_mk (B := B) I TB hcode (o.e1 _ _ hG1) ⟨hT1, hT2⟩ hdef (L.has I.ok) fun f c' pm' ctv H1 s' I1 gr hf hfn hfr => ?_)
  refine Calls.spliced_nil ⟨I1.kIn, ?_⟩
  obtain ⟨B1, e1, hc1, w1⟩ := gr.wd o hG1 ⟨hT1, hT2⟩
  have w1 : Wd (resOf X.md sd) B1 Fz H1 := by
    have := w1.weak (unpickS (e := .own (.str (X.env.qual ++ "<lambda>"))) hP)
    rwa [put_self hP] at this
  have hd1 : Dps X.md B1 [.ref f] [.clo f (capOf X.md σ ρ c' (X.env.qual ++ "<lambda>"))] := .cons (.clo ⟨sl.mono e1, hc1⟩) .nil
  have rc : codeAny (model X.prog X.w) X.A (.call (.ref g) ⟨[.ref f], []⟩) (CR (L2.CX X.prog X.w) X.stack X.prog X.w H1 s' Q (WE W σ)) s' := by
    refine run_gS (N := N) (ps := [a]) (us := [.ref f]) (vs := [.ref f]) F S hr2 I1.env0 (by have := (F.binds bnd) s' [.ref f] I1.kIn rfl; simpa using this) (.cons rfl .nil) rfl fun cdv _ hr' => ?_
    have hb := hG g cdv X.A X.stack s' H1 (WE W σ) hr' hgd f (capOf X.md σ ρ c' (X.env.qual ++ "<lambda>")) (mb ρ) fun W pn xe p1 p2 tk => me_act I1 L hf hfn hfr (hbind _ _ _ _ _) tk hr' hgd hbody hN hv hd hcd
    refine ⟨_, hb, resOf X.md sd, Fz, B1, Fz, startD N.length [.clo f (capOf X.md σ ρ c' (X.env.qual ++ "<lambda>"))], { nx := fun R _ => Qd R .non, rt := Qd, ex := fun R c fs _ => E R c fs }, ⟨w1, .ofStart hd1, Ex.refl _, w1.sys, fun i d e => (startOwn hd1 e).elim, fun i j d e a e1 => (startOwn hd1 e1).elim⟩, ?_, ?_⟩
    · refine ⟨sd, rfl, Out.post_mono (fun fl s2 h2 => ?_) (fun _ _ _ z => z) _ (hp f (capOf X.md σ ρ c' (X.env.qual ++ "<lambda>")))⟩
      cases fl with
      | nx _ => exact h2
      | rt d => exact h2
      | ex c fs _ => exact h2
      | bk _ => exact h2.elim
      | ct _ => exact h2.elim
    · exact ⟨fun R σ' ρ' B' Fz' H' e s' q' => kk R .non H' B' .non (e1.trans e) (s'.wd.less s'.f0 s'.s0) .non q', fun R v d B' H' e w' h' q' => kk R v H' B' d (e1.trans e) w' h' q', fun _ _ _ _ _ _ _ _ q' => q'.elim, fun _ _ _ _ _ _ _ _ q' => q'.elim,
        fun R c C dd H' B' Fz' vs fs σ' ρ' m e s' hd hf q' => xx R c C dd H' B' vs fs m (e1.trans e) (s'.wd.less s'.f0 s'.s0) hd hf q'⟩
  refine wpAny_call (codeAny_mono rc fun r s2 hq => ?_)
  cases r with
  | error e => exact passAt tk σ pins H1 s' e s2 I1 hq
  | ok fl =>
    cases fl with
    | ret u => exact I1.after hq
    | next => exact False.elim hq
    | brk => exact False.elim hq
    | cont => exact False.elim hq
end
end DL

set_option Elab.async false
set_option linter.all false
set_option maxRecDepth 100000
set_option maxHeartbeats 1000000
namespace DL
open PySem L2 PySem.Spec PyProof.Rows
/-! ### defs that make lambdas: their code objects are known -/
def CodeAt (K : PySem.W.Frag) (f : Addr) (cdv : Value) : Prop := ∃ (oc : Value) (od : Option Addr) (fd : FuncData) (osl : Array (Option Value)), K.lookup f = some ⟨oc, od, .func fd, osl⟩ ∧ fd.code = cdv
/-- the table of the code object of the def x lies at P -/
def TabAt (K : PySem.W.Frag) (mg : Str → Option Value) (base : Heap) (x : Str) (P : Addr) : Prop := ∀ (f : Addr) (cdv : Value), mg x = some (.ref f) → CodeAt K f cdv → ∃ c, cdv = .ref c ∧ LamX.TabB base mg c P
section
variable {P : Program} {w : World} {K : PySem.W.Frag} {mg : Str → Option Value} {base : Heap}
theorem fn_gC {CX : CXT} {x qual : Str} {st : Stmt} {f : Addr} {fd : FuncData} {N ps : List Str} {k : Nat} {sp : Sp} (F : Fun K x qual st f fd) (S : FnScope N ps (defScope st)) (len : ∀ vs H Q E, sp vs H Q E → vs.length = ps.length)
    (hb : ∀ (cdv : Value) (A : Around) (fs : List PySem.Env) (s : Shared) (H : Hp) (vs : List V) (Q : VK) (E : XK), CodeAt K f cdv → Room k (A.deeper (PyProof.Rows.envOfC qual (defScope st) s.heap.objs.size f cdv)) → A.guards = some [] → sp vs H Q E →
      ∃ t, PSs (cxOf CX P w K mg base N qual (defScope st) f cdv A fs s H E) (defBody st) t ∧ t { nx := fun _ H' => Q .non H', rt := Q } (L2.start N vs) H) : FnG P w K mg base CX (k + 1) f fd ps sp := by
  have hc : CodeAt K f fd.code := let ⟨oc, od, _, _, _, _, _, _, osl, _, lk, _⟩ := F.ex; ⟨oc, od, fd, osl, lk, rfl⟩
  exact ⟨len, fun A fs s H ar us vs Q E hr hgd e0 hbd rl hsp => run_gS F S hr e0 hbd rl (len _ _ _ _ hsp) fun cdv e r => hb cdv A fs s H vs Q E (e ▸ hc) r hgd hsp⟩
theorem fn_gdC {x qual : Str} {st : Stmt} {f : Addr} {fd : FuncData} {N ps : List Str} {k : Nat} {sp : DSp} (F : Fun K x qual st f fd) (S : FnScope N ps (defScope st)) (len : ∀ R ds Q E, sp R ds Q E → ds.length = ps.length)
    (hbody : ∀ (cdv : Value) (A : Around) (outer : List PySem.Env) (s : Shared) (H : Hp) (E : XK), CodeAt K f cdv → Room k (A.deeper (PyProof.Rows.envOfC qual (defScope st) s.heap.objs.size f cdv)) → A.guards = some [] →
      ∃ t : DSt, DSs (cxOf (L2.CX P w) P w K mg base N qual (defScope st) f cdv A outer s H E) (fun cls d _ H => E cls d H) (defBody st) t ∧
        ∀ R ds Q E, sp R ds Q E → t R { nx := fun R _ => Q R .non, rt := Q, ex := fun R c fs _ => E R c fs } (startD N.length ds)) : FnG P w K mg base (L2.CX P w) (k + 1) f fd ps (spL ⟨K, mg, w⟩ sp) := by
  refine fn_gC F S (spL_len len) fun cdv A outer s H vs Q E hc hr hgd hsp => ?_
  obtain ⟨R, Fz, B, ds, Qd, Ed, wd, hd, hs, k, x⟩ := hsp
  obtain ⟨t, h, q⟩ := hbody cdv A outer s H E hc hr hgd
  refine ⟨_, h, R, Fz, B, Fz, startD N.length ds, _, ⟨wd, .ofStart hd, Ex.refl _, wd.sys, fun i d e => (startOwn hd e).elim, fun i j d e a e1 => (startOwn hd e1).elim⟩, q R ds Qd Ed hs, ?_⟩
  exact ⟨fun R σ' ρ' B' Fz' H' e s' q' => k R .non H' B' .non e (s'.wd.less s'.f0 s'.s0) .non q', fun R v d B' H' e w' h' q' => k R v H' B' d e w' h' q', fun _ _ _ _ _ _ _ _ q' => q'.elim, fun _ _ _ _ _ _ _ _ q' => q'.elim,
    fun R c C dd H' B' Fz' vs fs σ' ρ' m e s' hd hf q' => x R c C dd H' B' vs fs m e (s'.wd.less s'.f0 s'.s0) hd hf q'⟩
/-- a def that makes lambdas -/
theorem okFT {x : Str} {st : Stmt} {N ps : List Str} {k : Nat} {m : FX} {tP : Addr} (F : DefAt K mg x st) (T : TabAt K mg base x tP) (S : FnScope N ps (defScope st))
    (bnd : ∀ (kV doc pm : Value) (an : Option Addr) (cdv ct : Value) (us : List Value), us.length = ps.length → bindArgs (PySem.W.fnOf x x (defArgs st) (defBody st) (defScope st) .none kV doc pm an cdv ct) ⟨us, []⟩ = pure (ps.zip us))
    (hbody : ∀ (f c : Addr) (A : Around) (outer : List PySem.Env) (s : Shared) (H : Hp) (E : XK), LamX.TabB base mg c tP → Room k (A.deeper (PyProof.Rows.envOfC x (defScope st) s.heap.objs.size f (.ref c))) → A.guards = some [] →
      MSs (cxOf (L2.CX P w) P w K mg base N x (defScope st) f (.ref c) A outer s H E) (fun cls d _ H => E cls d H) (defBody st) m) : OkG P w K mg base (k + 1) x ps (spF ⟨K, mg, w⟩ (callF ps.length N.length m)) := by
  obtain ⟨f, fd, hm, F⟩ := F
  refine ⟨f, fd, hm, F.kp, F.binds bnd, fn_gdC F S (fun R ds Q E h => spF_len h) fun cdv A outer s H E hc hr hgd => ?_⟩
  obtain ⟨c, rfl, tb⟩ := T f cdv hm hc
  exact ⟨cpsS ⟨K, mg, w⟩ m, hbody f c A outer s H E tb hr hgd, fun R ds Q E h => vcF R ds Q E h⟩
end
/-! ### the mirrors' equations -/
@[simp] theorem iff_T {α : Type} (x : Out α) : Out.iff True x = x := Out.iff_true trivial x
end DL

set_option Elab.async false
set_option linter.all false
set_option maxRecDepth 100000
set_option maxHeartbeats 3200000
/-! set(xs) of a tuple of any number of texts (the kit's HandS.Strs has it for one text at most; the road through set.__init__ is that one's) -/
namespace DL
open PySem PySem.Spec PyProof.Rows
/-- a text joins a set: what is in it, how many -/
def joinT (p : (Str → Bool) × Nat) (k : Str) : (Str → Bool) × Nat := (fun y => p.1 y || decide (y = k), if p.1 k then p.2 else p.2 + 1)
abbrev allT (xs : List Str) : (Str → Bool) × Nat := xs.foldl joinT (fun _ => false, 0)
theorem joinT_le (xs : List Str) : ∀ p : (Str → Bool) × Nat, (xs.foldl joinT p).2 ≤ p.2 + xs.length := by
  induction xs with
  | nil => intro p; simp
  | cons x r ih =>
    intro p
    have h1 := ih (joinT p x)
    have h2 : (joinT p x).2 ≤ p.2 + 1 := by unfold joinT; dsimp only; split <;> omega
    simp only [List.foldl_cons, List.length_cons]
    omega
section
variable {prog : Program} {w : World} {A : Around} {R : Result → Shared → Prop} {I : Addr} {fp wr : List Addr} {G : Array GenState → Array GenState → Prop} {n : Nat} {P : Nat → Value → Prop} {St : Nat → Shared → Prop}
theorem texts_in (W : WalksS prog w A.in1 I fp wr G n P St) (S : Addr) (hSf : S ∉ fp) (xs : List Str) (hsz : xs.length = n) (hval : ∀ i v, P i v → ∃ k t, xs[i]? = some k ∧ v = .str k t) (hroom : n + 1 < scanBound) :
    ∀ (rest : List Str) (i : Nat) (p : (Str → Bool) × Nat) (s : Shared), xs.drop i = rest → i ≤ n → p.2 ≤ i → St i s → s.heap.SetOf (PySem.strKind prog w) S p.1 p.2 →
      (∀ s', Moved (S :: wr) G s s' → s'.heap.SetOf (PySem.strKind prog w) S (rest.foldl joinT p).1 (rest.foldl joinT p).2 → R (.ok (.ret .none)) s') →
      codeAny (model prog w) A (.builtin "set.update.loop" ⟨[.ref S, .ref I], []⟩) R s := by
  have hSw : S ∉ wr := fun z => hSf (W.sub _ z)
  have wide : ∀ {s s' : Shared}, Moved wr G s s' → Moved (S :: wr) G s s' := fun m => m.mono fun b hb => List.mem_cons_of_mem _ hb
  have still : ∀ {s s' : Shared} {p : (Str → Bool) × Nat}, Moved wr G s s' → s.heap.SetOf (PySem.strKind prog w) S p.1 p.2 → s'.heap.SetOf (PySem.strKind prog w) S p.1 p.2 := fun m ⟨o, es, ep, t, ho, r⟩ => ⟨o, es, ep, t, m.heap S _ hSw ho, r⟩
  intro rest
  induction rest with
  | nil =>
    intro i p s hd hi hp hst hS fin
    have hin : i = n := by
      have := List.drop_eq_nil_iff.mp hd
      omega
    subst hin
    refine codeAny_builtin PyProof.Rows.F.entry_set_update_loop ?_
    rw [Around.under_plainId PyProof.Rows.F.plain_set_update_loop _]
    exact wpAny_bind (W.done s _ _ hst fun s' m => wpAny_pure (fin s' (wide m) (still m hS)))
  | cons x r ih =>
    intro i p s hd hi hp hst hS fin
    have hx : xs[i]? = some x := by rw [← List.head?_drop, hd]; rfl
    have hlt : i < n := by rw [← hsz]; exact (List.getElem?_eq_some_iff.mp hx).1
    refine codeAny_builtin PyProof.Rows.F.entry_set_update_loop ?_
    rw [Around.under_plainId PyProof.Rows.F.plain_set_update_loop _]
    refine wpAny_bind (W.item i s _ _ hlt hst fun v s' hP hst' m => ?_)
    obtain ⟨k, t, hk, rfl⟩ := hval i v hP
    cases hx.symm.trans hk
    show wpAny _ A.in1 (holding [Value.str x t] (setAdd S (.str x t)) >>= _) _ _ s'
    refine wpAny_bind (wpAny_holding ?_)
    unfold setAdd
    refine wpAny_holding (wpAny_bind ((PySem.strKind prog w).pyHash (k := x) (strKind_is _ _ _ _) ?_))
    have hS1 := still m hS
    refine wpAny_setAddHashed_of (knd := PySem.strKind prog w) (s := { s' with toks := s'.toks + 1 }) (strKind_is _ _ _ _) rfl hS1 (by omega) fun h' sb hS2 => ?_
    have hp2 : (joinT p x).2 ≤ i + 1 := by unfold joinT; dsimp only; split <;> omega
    refine wpAny_pure ⟨plainId_quiet PyProof.Rows.F.plain_set_update_loop _, ih (i + 1) (joinT p x) _ (by rw [← List.tail_drop, hd]; rfl) hlt hp2 (W.frame _ s' _ _ hst' (Nat.le_succ _) fun b hb o e => ?_) hS2 fun s2 m2 => fin s2 (Moved.trans W.gtrans ((wide m).then_heap (Nat.le_succ _) fun b o hb e => ?_) m2)⟩
    · rw [sb.2 b fun z => hSf (z ▸ hb)]; exact e
    · rw [sb.2 b fun z => hb (z ▸ List.mem_cons_self)]; exact e
end
section
variable {prog : Program} {w : World} {A : Around} {E : Value → Shared → Prop} {s : Shared}
theorem notin2 {a b c : Addr} (h1 : a ≠ b) (h2 : a ≠ c) : a ∉ [b, c] := by simp [h1, h2]
abbrev set0 (led : Bool) : Obj := { cls := .type "set", dict := none, data := .set #[] 0 (.fresh 0 0 led) }
theorem call_set_texts {l : Addr} {items : Array Value} {xs : List Str} {Q : Value → Shared → Prop} (hh : A.handled = none) (hl : s.heap.IsTuple l items) (hi : StrsAre items.toList xs) (hroom : xs.length + 1 < scanBound)
    (h : ∀ (h' : Heap) (tk : Nat), h'.SetOf (PySem.strKind prog w) s.heap.objs.size (allT xs).1 (allT xs).2 → (∀ b o, b < s.heap.objs.size → s.heap.get? b = some o → h'.get? b = some o) → Q (.ref s.heap.objs.size) { s with heap := h', toks := tk }) :
    wpAny (model prog w) A (call (.type "set") [.ref l]) Q E s := by
  obtain ⟨c, tl, hmro⟩ := PySem.F.called_set.mro
  have hmade := PySem.F.called_set.made
  have hsub := PySem.F.called_set.sub
  have h1 := PySem.F.called_set.notType
  have h2 := PySem.F.called_set.canCreate
  have hct := PySem.F.typeCall_set_1 (.ref l)
  refine wpAny_call (codeAny_of_tree (show wpAny _ _ (callAny (.type "set") _) _ _ _ from wpAny_pure ⟨Code.quiet_builtin _ (by decide +kernel), codeAny_builtin PySem.F.entry_type_call ?_⟩))
  rw [Around.under_plain (weight_type_call_type "set" [.ref l] []) rfl]
  repeat (any_goals (first | assumption | wp_step))
  refine codeAny_mono (code_set_new_1 (.ref l) (E := E) (Q₁ := fun o s1 => ∃ led : Bool, o = .ref s.heap.objs.size ∧ s1 = { s with heap := s.heap.push (set0 led) }) fun led => ⟨led, rfl, rfl⟩) fun r s1 hr => ?_
  match r, hr with
  | .error e, hr => exact hr
  | .ok .next, hr => exact hr.elim
  | .ok .brk, hr => exact hr.elim
  | .ok .cont, hr => exact hr.elim
  | .ok (.ret o), hr =>
    obtain ⟨led, rfl, rfl⟩ := hr
    have hS : (s.heap.push (set0 led)).get? s.heap.objs.size = some (set0 led) := Heap.get?_push_size _ rfl
    have hT : Shared.TypeIs { s with heap := s.heap.push (set0 led) } (.ref s.heap.objs.size) "set" := ⟨_, hS, rfl⟩
    have hli := PySem.F.called_set.init.lookup
    have hbi := PySem.F.called_set.init.bind (.ref s.heap.objs.size)
    repeat (any_goals (first | assumption | wp_step))
    refine codeAny_mono (codeAny_call_builtin (R := wants (fun r s2 => r = .none ∧ ∃ h' tk, s2 = { s with heap := h', toks := tk } ∧ h'.SetOf (PySem.strKind prog w) s.heap.objs.size (allT xs).1 (allT xs).2 ∧
        (∀ b o, b < s.heap.objs.size → s.heap.get? b = some o → h'.get? b = some o)) E) PySem.F.called_set.init.plain PySem.F.entry_set_init (check_set_init_1 hT ?_)) fun r2 s2 hr2 => ?_
    · obtain ⟨⟨oc, od, dt, sl⟩, hol, hcl, nl, hdl⟩ := hl
      simp only at hcl hdl
      subst hcl; subst hdl
      have hol' : (s.heap.push (set0 led)).get? l = some { cls := .type "tuple", dict := od, data := .seq items nl, slots := sl } := Heap.get?_push_of_some _ hol
      have hsls := PySem.F.sub_tuple_set
      have hslf := PySem.F.sub_tuple_frozenset
      have hne : (Value.type "tuple" == Value.type "dict") = false := by decide
      have hl1 : (s.heap.push (set0 led)).IsTuple l items := ⟨_, hol', rfl, nl, rfl⟩
      unfold Builtin.«set.__init__» noKeywords Builtin.Frozenset.updateFrom
      generalize hPI : pyIter = PI
      wp_walk
      subst hPI
      refine wpAny_pyIter_tuple hl1 (wpAny_bind (wpAny_runValue ?_))
      have hlS : l < s.heap.objs.size := Heap.lt_size hol
      have z1 : (s.heap.push (set0 led)).objs.size = s.heap.objs.size + 1 := Heap.size_push ..
      have hsz : xs.length = items.size := by rw [← StrsAre.len_eq hi, Array.length_toList]
      have hval : ∀ (i : Nat) (v : Value), items[i]? = some v → ∃ k t, xs[i]? = some k ∧ v = .str k t := fun i v hv => by
        obtain ⟨t, e⟩ := SS.strs_at hi i v (by rw [Array.getElem?_toList]; exact hv)
        have hlt : i < xs.length := by rw [hsz]; exact (Array.getElem?_eq_some_iff.mp hv).1
        exact ⟨xs[i], t, List.getElem?_eq_getElem hlt, by rw [e, List.getD_eq_getElem?_getD, List.getElem?_eq_getElem hlt]; rfl⟩
      refine texts_in ((Walks.tuple (show A.in1.in1.in1.handled = none by simp [hh]) _ l (by rw [z1]; exact Nat.ne_of_lt (Nat.lt_succ_of_lt hlS)) items).toS) s.heap.objs.size (by rw [z1]; exact notin2 (Nat.ne_of_lt (Nat.lt_succ_self _)) (Nat.ne_of_gt hlS)) xs hsz hval (by rw [← hsz]; exact hroom) xs 0 (fun _ => false, 0) _ rfl (Nat.zero_le _) (Nat.le_refl _)
        ⟨⟨_, Heap.get?_push_size _ rfl, rfl, rfl⟩, (hl1.push _)⟩ ?s0 ?fin
      case s0 => exact SetOf_congr ((setObjOf_fresh (knd := PySem.strKind prog w) led).setOf (Heap.get?_push_of_some _ hS) (by unfold scanBound; omega)) (fun _ => rfl) rfl
      case fin =>
        rintro ⟨h', g', d', tk', os'⟩ m hS'
        obtain rfl : g' = s.gens := m.gens
        obtain rfl : d' = s.drawn := m.drawn
        obtain rfl : os' = s.os := m.os
        refine wpAny_pure (show wpAny _ _ (ret Value.none) _ _ _ from wpAny_pure ⟨rfl, h', tk', rfl, hS', fun b o hb e => m.heap b o ?_ (Heap.get?_push_of_some _ (Heap.get?_push_of_some _ e))⟩)
        rw [z1]; exact notin2 (Nat.ne_of_lt hb) (Nat.ne_of_lt (Nat.lt_succ_of_lt hb))
    · match r2, hr2 with
      | .error e, hr2 => exact hr2
      | .ok .next, hr2 => exact hr2.elim
      | .ok .brk, hr2 => exact hr2.elim
      | .ok .cont, hr2 => exact hr2.elim
      | .ok (.ret r), hr2 =>
        obtain ⟨rfl, h', tk, rfl, hS', hk'⟩ := hr2
        repeat (any_goals (first | assumption | wp_step))
        exact h _ _ hS' hk'
end
end DL

set_option Elab.async false
set_option linter.all false
set_option maxRecDepth 100000
set_option maxHeartbeats 1000000
namespace DL
open PySem L2 PySem.Spec PyProof.Rows
def txtsD : List D → Option (List Str)
  | [] => some []
  | .str x :: r => (txtsD r).map (x :: ·)
  | _ :: _ => none
theorem txtsD_eq : ∀ {ds : List D} {xs : List Str}, txtsD ds = some xs → ds = xs.map D.str
  | [], _, h => by cases h; rfl
  | d :: r, xs, h => by
    cases d <;> first | (cases h; done) | skip
    rename_i x
    unfold txtsD at h
    cases q : txtsD r with
    | none => rw [q] at h; cases h
    | some ys =>
      rw [q] at h
      cases h
      rw [txtsD_eq q]; rfl
theorem txtsD_map (xs : List Str) : txtsD (xs.map D.str) = some xs := by
  induction xs with
  | nil => rfl
  | cons x r ih => simp only [List.map_cons, txtsD, ih]; rfl
/-- len(set(t)), t a tuple of texts -/
def oLenSet : O1
  | .tup ds => match txtsD ds with
    | some xs => if xs.length < 4000 then some (.int (allT xs).2) else none
    | none => none
  | _ => none
def tLenSetT (K : PySem.W.Frag) (ta : TE) : TE := fun σ H Q => ta σ H fun x H1 => ∃ l, ∃ xs : List Str, x = .ref l ∧ SqT K H1 l (xs.map V.str) ∧ xs.length < 4000 ∧ Q (.int (allT xs).2) H1
section
variable {X : Cx} {W : WX}
theorem strs_vals : ∀ {ys : List Str} {us : List Value}, Vals (ys.map V.str) us → StrsAre us ys
  | [], _, .nil => .nil
  | y :: ys, _, .cons r t => by
    obtain ⟨k, rfl⟩ := r
    exact .cons y k (strs_vals t)
theorem pe_lenSetT {a : Expr} {ta : TE} {p p2 q pos : Pos} (hc : X.calm = true) (hg : Gl X "len") (hm : X.mg "len" = none) (hg2 : Gl X "set") (hm2 : X.mg "set" = none) (ha : PE X a ta)
    (na : starEach [a] X.env = (false, eval a X.env) :: starEach [] X.env := by rfl) : PE X (.Call (.Name "len" p) [.Call (.Name "set" p2) [a] [] q] [] pos) (tLenSetT X.K ta) := by
  constructor
  intro pins s σ H Q I h
  refine Call_ (ld_blt I hg hm boot_len (callWith_builtin1 (args_cons (Call_ (ld_blt I hg2 hm2 boot_set (callWith_type1 (args_cons (thn (ha.run pins s σ H _ I h) fun v s1 ⟨x, H1, I1, r1, q1⟩ => args_nil ?_) na) na rfl))) rfl) rfl rfl))
  obtain ⟨l, xs, rfl, hq, hl, q1⟩ := q1
  cases r1
  obtain ⟨its, r, pl, hz⟩ := I1.tuple hq
  refine call_set_texts (xs := xs) (I1.ok.hd hc) pl (by simpa using strs_vals r) (by unfold scanBound; omega) fun h' tk hS hk => args_nil ?_
  obtain ⟨o, es, ep, t, ho, hex, hd, _, _, _, hf, hn⟩ := hS
  have I2 : Inv X pins σ H1 { s1 with heap := h', toks := tk } := I1.kept fun b o e => hk b o (Heap.lt_size e) e
  have hb := joinT_le xs (fun _ => false, 0)
  have hn' : es.size = (allT xs).2 := hn
  have hb' : (allT xs).2 ≤ 0 + xs.length := hb
  exact call_len_set ho hex hd hf (by rw [hn']; omega) ⟨.int (allT xs).2, H1, I2.tok _, ⟨_, by rw [hn']⟩, q1⟩
/-- one operand, by a partial function -/
def dOne (o : O1) (t : DT) : DT := fun R ρ Q E => t R ρ (fun R d => ∃ z, o d = some z ∧ Q R z) E
theorem me_one1 {e : Expr} {o : O1} {m : FE} (h : DE X W e (dOne o (cps X.md m))) : ME X W e (mUn o m) := de_mono h fun R ρ Q E ⟨s, hs, h⟩ => by
  subst hs
  exact cps_bind h fun d s1 h1 => post_opt h1
theorem me_lenSet {a : Expr} {m : FE} {p p2 q pos : Pos} (hc : X.calm = true) (hg : Gl X "len") (hm : X.mg "len" = none) (hg2 : Gl X "set") (hm2 : X.mg "set" = none) (ha : ME X W a m)
    (na : starEach [a] X.env = (false, eval a X.env) :: starEach [] X.env := by rfl) : ME X W (.Call (.Name "len" p) [.Call (.Name "set" p2) [a] [] q] [] pos) (mUn oLenSet m) :=
  me_one1 ((pe_lenSetT hc hg hm hg2 hm2 ha na).imp fun σ H Q ⟨R, Fz, B, ρ, Qd, E, w, sl, h, k, x⟩ => by
    refine ⟨_, Fz, B, ρ, _, E, w, sl, h, fun R1 v H1 B1 d e1 w1 hd ⟨z, e, q⟩ => ?_, x⟩
    unfold oLenSet at e
    split at e
    · rename_i ds
      split at e
      · rename_i xs hxs
        obtain ⟨hl, rfl⟩ := if_some e
        cases hd with
        | tup ht hds =>
          have := txtsD_eq hxs
          subst this
          have hv := hds.ofStrs
          subst hv
          exact ⟨_, xs, rfl, w1.ex.st ht.st, hl, k _ _ H1 B1 _ e1 w1 (.int _) q⟩
      · cases e
    · cases e)
end
end DL

set_option Elab.async false
set_option linter.all false
set_option maxRecDepth 100000
set_option maxHeartbeats 1000000
namespace DL
open PySem L2 PySem.Spec PyProof.Rows
/-! ### methods of tuples -/
section
variable {X : Cx} {W : WX}
theorem tup_is {pins : List (Addr × Obj)} {σ : L2.St} {H : Hp} {s : Shared} {p : Addr} {xs : List V} (I : Inv X pins σ H s) (h : TupAt X.K H p xs) : s.TypeIs (.ref p) "tuple" ∧ ∀ a, Value.ref p = .ref a → ∃ ob, s.heap.get? a = some ob ∧ ob.dict = none := by
  obtain ⟨its, _, ⟨o, ho, hc, _⟩, _⟩ := I.tuple h.st
  refine ⟨⟨o, ho, hc⟩, fun a z => ?_⟩
  cases z
  rcases h with ⟨u, hd, h⟩ | ⟨u, _, _, hk, _, hd, _⟩
  · exact ⟨u, (I.hok p _ h).1, hd⟩
  · exact ⟨u, I.kIn p u hk, hd⟩
/-- o.name(e, ..), o a tuple -/
def tTM (K : PySem.W.Frag) (r : V → List V → Hp → VK → Prop) (to : TE) (t : TA) : TE := fun σ H Q => to σ H fun x H1 => (∃ p xs, x = .ref p ∧ TupAt K H1 p xs) ∧ t σ H1 fun vs H2 => r x vs H2 Q
variable {o e : Expr} {es : List Expr} {to : TE} {t : TA} {name : Str} {apos cpos : Pos} {id : String} {r : V → List V → Hp → VK → Prop}
theorem pe_tm (slot : Slot "tuple" name id) (hty : typeOf (.builtin id) = pure (.type "method_descriptor")) (hm : MtR X id r) (ho : PE X o to) (ha : PA X [e] t) (hbase : attributeBase o name X.env (eval o X.env) = eval o X.env := by rfl)
    (hfew : ((backTo cpos (starEach [e] X.env)).all (fun x => !x.1) && (backToKw cpos (keywordEach [] X.env)).all (fun x => x.1.isSome) && decide ([e].length + ([] : List Keyword).length + (if ([] : List Keyword).isEmpty then 0 else 1) < 30)) = true := by rfl)
    (hline : (apos.endLine == cpos.line) = true := by rfl) (hs : starEach [e] X.env = (false, eval e X.env) :: starEach [] X.env := by rfl) : PE X (.Call (.Attribute o name apos) [e] [] cpos) (tTM X.K r to t) := by
  constructor
  intro pins s σ H Q I h
  refine wpAny_Call_method_late hbase hfew hline rfl (thn (ho.run pins s σ H _ I h) fun v s1 ⟨x, H1, I1, r1, ⟨p, xs, ex, ty⟩, q1⟩ => ?_)
  subst ex
  cases r1
  have z := tup_is I1 ty
  have hA := ha.run cpos pins s1 σ H1 _ I1 q1
  rw [hs] at hA ⊢
  exact ⟨"tuple", id, PySem.F.plainAttrs_tuple, slot, hty, z.1, z.2, Calls.callWith_builtin rfl (Calls.evalArgs_plain (thn hA fun us s2 ⟨vs, H2, I2, r2, q2⟩ => hm pins s2 σ H2 (.ref p) vs (.ref p) us Q I2 (show L2.RelV (.ref p) (.ref p) from rfl) r2 q2))⟩
end
/-- the first place -/
def placeOf (z : Str) : List Str → Option Nat
  | [] => none
  | y :: r => if y = z then some 0 else (placeOf z r).map (· + 1)
theorem placeOf_at {z : Str} : ∀ {ys : List Str} {j : Nat}, placeOf z ys = some j → ys[j]? = some z ∧ ∀ m, m < j → ys[m]? ≠ some z
  | [], _, h => by cases h
  | y :: r, j, h => by
    unfold placeOf at h
    split at h
    · rename_i e; cases h; exact ⟨by rw [e]; rfl, fun m hm => absurd hm (Nat.not_lt_zero _)⟩
    · rename_i e
      cases q : placeOf z r with
      | none => rw [q] at h; cases h
      | some i =>
        rw [q] at h
        cases h
        obtain ⟨h1, h2⟩ := placeOf_at q
        refine ⟨h1, fun m hm => ?_⟩
        cases m with
        | zero => exact fun z => e (Option.some.inj z)
        | succ m => exact h2 m (Nat.lt_of_succ_lt_succ hm)
def oTup : O1
  | .tup ds => some (.tup ds)
  | _ => none
/-- t.index(z), both known -/
def oIndex : O2
  | .tup ds, .str z => match txtsD ds with
    | some ys => (placeOf z ys).map fun j => .int j
    | none => none
  | _, _ => none
section
variable {X : Cx} {W : WX} {a b : Expr} {ma mb : FE} {apos cpos : Pos}
def dBin2 (o : O2) (ta tb : DT) : DT := fun R ρ Q E => ta R ρ (fun R x => tb R ρ (fun R y => ∃ z, o x y = some z ∧ Q R z) E) E
theorem me_bin2 {e : Expr} {o : O2} (h : DE X W e (dBin2 o (cps X.md ma) (cps X.md mb))) : ME X W e (mBin o ma mb) := de_mono h fun R ρ Q E ⟨s, hs, h⟩ => by
  subst hs
  exact cps_bind h fun x s1 h1 => cps_bind h1 fun y s2 h2 => post_opt h2
theorem me_index (ha : ME X W a ma) (hb : ME X W b mb) (hbase : attributeBase a "index" X.env (eval a X.env) = eval a X.env := by rfl) (hline : (apos.endLine == cpos.line) = true := by rfl)
    (hs : starEach [b] X.env = (false, eval b X.env) :: starEach [] X.env := by rfl) : ME X W (.Call (.Attribute a "index" apos) [b] [] cpos) (mBin oIndex (mUn oTup ma) mb) := by
  refine me_bin2 ((pe_tm PySem.F.slot_tuple_index PySem.F.type_tuple_index mt_tup_index ha (pa_cons hb pa_nil hs) hbase (by rw [hs]; rfl) hline hs).imp fun σ H Q ⟨R, Fz, B, ρ, Qd, E, w, sl, ⟨s, hR, h⟩, k, x⟩ => ?_)
  subst hR
  unfold mUn at h
  refine ⟨_, Fz, B, ρ, fun R d => ∃ ds, d = .tup ds ∧ cps X.md mb R ρ (fun R y => ∃ z, oIndex d y = some z ∧ Qd R z) E, E, w, sl, cps_bind (Q := fun R x => cps X.md mb R ρ (fun R y => ∃ z, oIndex x y = some z ∧ Qd R z) E) h fun d s1 h1 => ?_, fun R1 v H1 B1 d e1 w1 hd ⟨ds, e, q1⟩ => ?_, x⟩
  · obtain ⟨d', e', q⟩ := post_opt h1
    cases d with
    | tup ds => cases e'; exact ⟨ds, rfl, q⟩
    | _ => exact nomatch e'
  · subst e
    cases hd with
    | tup ht hds =>
      refine ⟨⟨_, _, rfl, w1.ex.tt ht⟩, R1, Fz, B1, ρ, _, E, w1, sl.mono e1, q1, fun R2 u H2 B2 d2 e2 w2 h2 ⟨z, ez, qz⟩ => ?_, x.mono e1⟩
      cases d2 with
      | str zz =>
        unfold oIndex at ez
        dsimp only at ez
        split at ez
        · rename_i ys hys
          cases q : placeOf zz ys with
          | none => rw [q] at ez; cases ez
          | some j =>
            rw [q] at ez
            cases ez
            cases h2.ofStr
            have eds := txtsD_eq hys
            subst eds
            have ev := (hds.mono e2).ofStrs
            subst ev
            obtain ⟨p1, p2⟩ := placeOf_at q
            exact ⟨_, ys, zz, j, rfl, rfl, w2.ex.st ((e2.tt ht)).st, p1, p2, k R2 _ H2 B2 _ (e1.trans e2) w2 (.int _) qz⟩
        · cases ez
      | _ => exact nomatch ez
end
end DL

set_option Elab.async false
set_option linter.all false
set_option maxRecDepth 100000
set_option maxHeartbeats 1000000
namespace DL
open PySem L2
/-! ### what the mirrors do, step by step -/
section
variable {ρ : Env} {s : Ds} {ma mb mc m : FE} {mA mB : FB} {mr : FA} {ms mu : FX}
@[simp] theorem noOwn_non : noOwn .non = some .non := rfl
@[simp] theorem noOwn_bl {b : Bool} : noOwn (.bl b) = some (.bl b) := rfl
@[simp] theorem noOwn_int {b : Int} : noOwn (.int b) = some (.int b) := rfl
@[simp] theorem noOwn_str {b : Str} : noOwn (.str b) = some (.str b) := rfl
@[simp] theorem noOwn_tup {b : List D} : noOwn (.tup b) = some (.tup b) := rfl
@[simp] theorem noOwn_lst {b : List D} : noOwn (.lst b) = some (.lst b) := rfl
@[simp] theorem noOwn_frl {b : List D} : noOwn (.frl b) = some (.frl b) := rfl
@[simp] theorem noOwn_dct {b : List (D × D)} : noOwn (.dct b) = some (.dct b) := rfl
@[simp] theorem noOwn_obj {c : Str} {b : List (Str × D)} : noOwn (.obj c b) = some (.obj c b) := rfl
@[simp] theorem noOwn_ref {a : Addr} : noOwn (.ref a) = some (.ref a) := rfl
@[simp] theorem mVar_r {i : Nat} : mVar i ρ s = (match ρ[i]? with | some (some d) => optO (noOwn d) s | _ => .err) := rfl
@[simp] theorem mC_r {d : D} : mC d ρ s = .ok d s := rfl
@[simp] theorem mBin_r {o : O2} : mBin o ma mb ρ s = (ma ρ s).bind fun x s => (mb ρ s).bind fun y s => optO (o x y) s := rfl
@[simp] theorem mUn_r {o : O1} : mUn o m ρ s = (m ρ s).bind fun d s => optO (o d) s := rfl
def tbl (d : D) (s : Ds) : Out Bool := match d with
  | .bl b => .ok b s
  | _ => .err
@[simp] theorem tbl_r {b : Bool} : tbl (.bl b) s = .ok b s := rfl
@[simp] theorem mTest_r : mTest m ρ s = (m ρ s).bind tbl := rfl
@[simp] theorem mNot_r : mNot mA ρ s = (mA ρ s).bind fun b s => .ok (!b) s := rfl
@[simp] theorem mAnd_r : mAnd mA mB ρ s = (mA ρ s).bind fun b s => if b = true then mB ρ s else .ok false s := rfl
@[simp] theorem mOr_r : mOr mA mB ρ s = (mA ρ s).bind fun b s => if b = true then .ok true s else mB ρ s := rfl
def andK (m : FE) (ρ : Env) (d : D) (s : Ds) : Out D := match d with
  | .bl true => m ρ s
  | .bl false => .ok (.bl false) s
  | _ => .err
def orK (m : FE) (ρ : Env) (d : D) (s : Ds) : Out D := match d with
  | .bl true => .ok (.bl true) s
  | .bl false => m ρ s
  | _ => .err
def notK (d : D) (s : Ds) : Out D := match d with
  | .bl b => .ok (.bl (!b)) s
  | _ => .err
@[simp] theorem andK_r {b : Bool} : andK m ρ (.bl b) s = if b = true then m ρ s else .ok (.bl false) s := by cases b <;> rfl
@[simp] theorem orK_r {b : Bool} : orK m ρ (.bl b) s = if b = true then .ok (.bl true) s else m ρ s := by cases b <;> rfl
@[simp] theorem notK_r {b : Bool} : notK (.bl b) s = .ok (.bl (!b)) s := rfl
@[simp] theorem mAndV_r : mAndV ma mb ρ s = (ma ρ s).bind (andK mb ρ) := rfl
@[simp] theorem mOrV_r : mOrV ma mb ρ s = (ma ρ s).bind (orK mb ρ) := rfl
@[simp] theorem mNotV_r : mNotV ma ρ s = (ma ρ s).bind notK := rfl
@[simp] theorem mIf_r : mIf mA ma mb ρ s = (mA ρ s).bind fun b s => if b = true then ma ρ s else mb ρ s := rfl
def chK (p : O2) (mc : FE) (ρ : Env) (y : D) (s : Ds) : Option D → Out D
  | some (.bl true) => (mc ρ s).bind fun u s => optO (p y u) s
  | some (.bl false) => .ok (.bl false) s
  | _ => .err
@[simp] theorem chK_r {p : O2} {y : D} {b : Bool} : chK p mc ρ y s (some (.bl b)) = if b = true then (mc ρ s).bind fun u s => optO (p y u) s else .ok (.bl false) s := by cases b <;> rfl
@[simp] theorem mChain_r {o p : O2} : mChain o p ma mb mc ρ s = (ma ρ s).bind fun x s => (mb ρ s).bind fun y s => chK p mc ρ y s (o x y) := rfl
@[simp] theorem mNil_r : mNil ρ s = .ok [] s := rfl
@[simp] theorem mCons_r : mCons m mr ρ s = (m ρ s).bind fun x s => (mr ρ s).bind fun xs s => .ok (x :: xs) s := rfl
@[simp] theorem mStar_r : mStar m mr ρ s = (m ρ s).bind fun x s => (optO (seqD x) s).bind fun ys s => (mr ρ s).bind fun xs s => .ok (ys ++ xs) s := rfl
@[simp] theorem mSeq_r {c : List D → D} : mSeq c mr ρ s = (mr ρ s).bind fun xs s => optO (sized c xs) s := rfl
@[simp] theorem mCB_r {o : OC} : mCB o mr ρ s = (mr ρ s).bind fun xs s => optO (o xs) s := rfl
@[simp] theorem mNoPart_r : mNoPart ρ s = .ok none s := rfl
def partK (d : D) (s : Ds) : Out (Option Int) := match d with
  | .int i => .ok (some i) s
  | _ => .err
@[simp] theorem partK_r {i : Int} : partK (.int i) s = .ok (some i) s := rfl
@[simp] theorem mPart_r : mPart m ρ s = (m ρ s).bind partK := rfl
@[simp] theorem mSl_r {ml mh : FO} : mSl m ml mh ρ s = (m ρ s).bind fun d s => (ml ρ s).bind fun lo s => (mh ρ s).bind fun hi s => optO (oCut d lo hi) s := rfl
@[simp] theorem mCall_r {f : FF} : mCall f mr ρ s = (mr ρ s).bind fun ds s => f ds s := rfl
@[simp] theorem mCallN_r {f : FF} : mCallN f mr ρ s = (mr ρ s).bind fun ds s => (f ds s).bindN .ok := rfl
@[simp] theorem mItems_r : mItems m ρ s = (m ρ s).bind fun d s => optO (itemsD d) s := rfl
@[simp] theorem mIt_r {o : List D → Option (List D)} : mIt o mr ρ s = (mr ρ s).bind fun ds s => optO (o ds) s := rfl
@[simp] theorem mYes_r : mYes ρ s = .ok true s := rfl
@[simp] theorem mFld_r {A : Str → Str → Bool} {n : Str} : mFld A n m ρ s = (m ρ s).bind fun d s => optO (fldD A n s d) s := rfl
/-! statements -/
@[simp] theorem stE_r {α : Type} {m : Env → Ds → Out α} {k : α → Ds → Out Fl} : stE m ρ s k = (m ρ s).bind2 (fun c fs s => .ok (.ex c fs ρ) s) k := rfl
@[simp] theorem mNext_r : mNext ρ s = .ok (.nx ρ) s := rfl
def thenK (u : FX) (fl : Fl) (s : Ds) : Out Fl := match fl with
  | .nx ρ' => u ρ' s
  | fl => .ok fl s
@[simp] theorem thenK_nx {u : FX} : thenK u (.nx ρ) s = u ρ s := rfl
@[simp] theorem thenK_rt {u : FX} {d : D} : thenK u (.rt d) s = .ok (.rt d) s := rfl
@[simp] theorem thenK_ex {u : FX} {c : Str} {fs : List (Str × D)} : thenK u (.ex c fs ρ) s = .ok (.ex c fs ρ) s := rfl
@[simp] theorem mThen_r : mThen ms mu ρ s = (ms ρ s).bind (thenK mu) := by
  unfold mThen thenK
  congr
@[simp] theorem mRet_r : mRet m ρ s = (m ρ s).bind2 (fun c fs s => .ok (.ex c fs ρ) s) fun d s => .ok (.rt d) s := rfl
@[simp] theorem mSet_r {i : Nat} : mSet i m ρ s = (m ρ s).bind2 (fun c fs s => .ok (.ex c fs ρ) s) fun d s => .ok (.nx (ρ.set i (some d))) s := rfl
@[simp] theorem mAsg_r {og : OG} : mAsg m og ρ s = (m ρ s).bind2 (fun c fs s => .ok (.ex c fs ρ) s) fun d s => (optO (og d ρ) s).bind fun ρ' s => .ok (.nx ρ') s := rfl
@[simp] theorem mIfS_r : mIfS mA ms mu ρ s = (mA ρ s).bind2 (fun c fs s => .ok (.ex c fs ρ) s) fun b s => if b = true then ms ρ s else mu ρ s := rfl
@[simp] theorem mDrop_r : mDrop m ρ s = (m ρ s).bind2 (fun c fs s => .ok (.ex c fs ρ) s) fun _ s => .ok (.nx ρ) s := rfl
@[simp] theorem mRaise_r {c f : Str} : mRaise c f m ρ s = (m ρ s).bind2 (fun c fs s => .ok (.ex c fs ρ) s) fun d s => .ok (.ex c [(f, d)] ρ) s := rfl
@[simp] theorem mFor_r {mi : FA} {og : OG} : mFor mi og ms ρ s = (mi ρ s).bind2 (fun c fs s => .ok (.ex c fs ρ) s) fun ds s => forF og ms ds ρ s := rfl
def par2K (i j : Nat) (ρ : Env) (ds : List D) (s : Ds) : Out Fl := match ds with
  | [u, v] => .ok (.nx ((ρ.set i (some u)).set j (some v))) s
  | _ => .err
def par3K (i j l : Nat) (ρ : Env) (ds : List D) (s : Ds) : Out Fl := match ds with
  | [u, v, z] => .ok (.nx (((ρ.set i (some u)).set j (some v)).set l (some z))) s
  | _ => .err
@[simp] theorem par2K_r {i j : Nat} {u v : D} : par2K i j ρ [u, v] s = .ok (.nx ((ρ.set i (some u)).set j (some v))) s := rfl
@[simp] theorem par3K_r {i j l : Nat} {u v z : D} : par3K i j l ρ [u, v, z] s = .ok (.nx (((ρ.set i (some u)).set j (some v)).set l (some z))) s := rfl
@[simp] theorem mPar_r {i j : Nat} : mPar i j mr ρ s = (mr ρ s).bind2 (fun c fs s => .ok (.ex c fs ρ) s) (par2K i j ρ) := rfl
@[simp] theorem mPar3_r {i j l : Nat} : mPar3 i j l mr ρ s = (mr ρ s).bind2 (fun c fs s => .ok (.ex c fs ρ) s) (par3K i j l ρ) := rfl
@[simp] theorem mOwn_r {i : Nat} : mOwn i mr ρ s = (mr ρ s).bind2 (fun c fs s => .ok (.ex c fs ρ) s) fun ds s => .ok (.nx (ρ.set i (some (.own (.lst ds))))) s := rfl
@[simp] theorem mfLst_r : mfLst mr ρ s = (mr ρ s).bind fun xs s => if xs.length ≤ sizeLine then .ok xs s else .err := rfl
@[simp] theorem mGive_r {i : Nat} : mGive i ms ρ s = (optO (ownLst ρ i) s).bind fun ds s => ms (ρ.set i (some (.lst ds))) s := rfl
@[simp] theorem mExt_r {i : Nat} : mExt i m ρ s = (optO (ownLst ρ i) s).bind fun ds s => (m ρ s).bind2 (fun c fs s => .ok (.ex c fs ρ) s) fun d s => (optO (lstD d) s).bind fun xs s => if ds.length + xs.length ≤ sizeLine then .ok (.nx (ρ.set i (some (.own (.lst (ds ++ xs)))))) s else .err := rfl
@[simp] theorem mApp_r {i : Nat} : mApp i m ρ s = (optO (ownLst ρ i) s).bind fun ds s => (m ρ s).bind2 (fun c fs s => .ok (.ex c fs ρ) s) fun d s => if ds.length < sizeLine then .ok (.nx (ρ.set i (some (.own (.lst (ds ++ [d])))))) s else .err := rfl
@[simp] theorem forF_nil {og : OG} : forF og ms [] ρ s = .ok (.nx ρ) s := rfl
def forK (og : OG) (mb : FX) (r : List D) (fl : Fl) (s : Ds) : Out Fl := match fl with
  | .nx ρ' => forF og mb r ρ' s
  | .ct ρ' => forF og mb r ρ' s
  | .bk ρ' => .ok (.nx ρ') s
  | fl => .ok fl s
@[simp] theorem forK_nx {og : OG} {r : List D} : forK og ms r (.nx ρ) s = forF og ms r ρ s := rfl
@[simp] theorem forK_rt {og : OG} {r : List D} {d : D} : forK og ms r (.rt d) s = .ok (.rt d) s := rfl
@[simp] theorem forK_ex {og : OG} {r : List D} {c : Str} {fs : List (Str × D)} : forK og ms r (.ex c fs ρ) s = .ok (.ex c fs ρ) s := rfl
theorem forF_cons {og : OG} {d : D} {r : List D} : forF og ms (d :: r) ρ s = (optO (og d ρ) s).bind fun ρ2 s => (ms ρ2 s).bind (forK og ms r) := by
  unfold forK
  conv => lhs; unfold forF
  try congr
@[simp] theorem callF_r {k n : Nat} {ds : List D} : callF k n ms ds s = if ds.length = k then (ms (startD n ds) s).bindN flD else .err := rfl
@[simp] theorem flD_nx : flD (.nx ρ) s = .ok .non s := rfl
@[simp] theorem flD_rt {d : D} : flD (.rt d) s = .ok d s := rfl
@[simp] theorem flD_ex {c : Str} {fs : List (Str × D)} : flD (.ex c fs ρ) s = .exc c fs s := rfl
@[simp] theorem ogName_r {i : Nat} {d : D} : ogName i d ρ = some (ρ.set i (some d)) := rfl
@[simp] theorem og2_tup {i j : Nat} {x y : D} : og2 i j (.tup [x, y]) ρ = some ((ρ.set i (some x)).set j (some y)) := rfl
@[simp] theorem og2_tpw {i j : Nat} {x y : D} : og2 i j (.tpw [x, y]) ρ = some ((ρ.set i (some x)).set j (some y)) := rfl
@[simp] theorem og3_tup {i j k : Nat} {x y z : D} : og3 i j k (.tup [x, y, z]) ρ = some (((ρ.set i (some x)).set j (some y)).set k (some z)) := rfl
end
@[simp] theorem startD_r {n : Nat} {ds : List D} : startD n ds = ds.map some ++ List.replicate (n - ds.length) none := rfl
/-! operators on known things -/
@[simp] theorem oSubB_ii {i j : Int} : oSubB (.int i) (.int j) = some (.int (i - j)) := rfl
@[simp] theorem oSubB_ib {i : Int} {b : Bool} : oSubB (.int i) (.bl b) = some (.int (i - bI b)) := rfl
@[simp] theorem oAdd_ii {i j : Int} : oAdd' (.int i) (.int j) = some (.int (i + j)) := rfl
@[simp] theorem oLe_ii {i j : Int} : oLe' (.int i) (.int j) = some (.bl (decide (i ≤ j))) := rfl
@[simp] theorem oGt_ii {i j : Int} : oGt' (.int i) (.int j) = some (.bl (decide (j < i))) := rfl
@[simp] theorem oGe_ii {i j : Int} : oGe' (.int i) (.int j) = some (.bl (decide (j ≤ i))) := rfl
@[simp] theorem oLt_ii {i j : Int} : oLt' (.int i) (.int j) = some (.bl (decide (i < j))) := rfl
@[simp] theorem oLt0_ii {i j : Int} : oLt0 (.int i) (.int j) = some (.bl (decide (i < j))) := rfl
@[simp] theorem oLt_ss {x y : Str} : oLt' (.str x) (.str y) = some (.bl (decide (x.cps.toList < y.cps.toList))) := rfl
@[simp] theorem oLen_tup {ds : List D} : oLen [.tup ds] = some (.int ds.length) := rfl
@[simp] theorem oLen_lst {ds : List D} : oLen [.lst ds] = some (.int ds.length) := rfl
@[simp] theorem oLen_frl {ds : List D} : oLen [.frl ds] = some (.int ds.length) := rfl
theorem oLen_str {x : Str} (h : x.length ≤ sizeLine) : oLen [.str x] = some (.int x.length) := if_pos h
@[simp] theorem oTuple_lst {ds : List D} : oTuple [.lst ds] = some (.tup ds) := rfl
@[simp] theorem oTuple_tup {ds : List D} : oTuple [.tup ds] = some (.tup ds) := rfl
@[simp] theorem oList_lst {ds : List D} : oList [.lst ds] = some (.lst ds) := rfl
@[simp] theorem oList_tup {ds : List D} : oList [.tup ds] = some (.lst ds) := rfl
@[simp] theorem oNeg_int {i : Int} : oNeg (.int i) = some (.int (-i)) := rfl
@[simp] theorem oRev_tup {ds : List D} : oRev (.tup ds) = some (.tup ds.reverse) := rfl
@[simp] theorem oInt1_int {i : Int} : oInt1 [.int i] = some (.int i) := rfl
@[simp] theorem itemsD_tup {ds : List D} : itemsD (.tup ds) = some ds := rfl
@[simp] theorem itemsD_lst {ds : List D} : itemsD (.lst ds) = some ds := rfl
@[simp] theorem itemsD_str {x : Str} : itemsD (.str x) = some (signsD x) := rfl
@[simp] theorem seqD_tup {ds : List D} : seqD (.tup ds) = some ds := rfl
@[simp] theorem seqD_lst {ds : List D} : seqD (.lst ds) = some ds := rfl
@[simp] theorem lstD_lst {ds : List D} : lstD (.lst ds) = some ds := rfl
@[simp] theorem sized_ok {c : List D → D} {xs : List D} (h : xs.length ≤ 1000) : sized c xs = some (c xs) := if_pos (Nat.le_trans h (by decide))
@[simp] theorem oEq_ii {i j : Int} : oEq' (.int i) (.int j) = some (.bl (decide (i = j))) := by
  show (if D.fit (.int i) = true ∧ D.fit (.int j) = true then some (D.bl (D.eqv (.int i) (.int j) != false)) else none) = _
  rw [if_pos ⟨rfl, rfl⟩]
  have : D.eqv (.int i) (.int j) = decide (i = j) := by
    show PyData.eqv (.int i) (.int j) = _
    simp only [PyData.eqv]; by_cases h : i = j <;> simp [h]
  rw [this]; simp
@[simp] theorem oNe_ii {i j : Int} : oNe' (.int i) (.int j) = some (.bl (!decide (i = j))) := by
  show (if D.fit (.int i) = true ∧ D.fit (.int j) = true then some (D.bl (D.eqv (.int i) (.int j) != true)) else none) = _
  rw [if_pos ⟨rfl, rfl⟩]
  have : D.eqv (.int i) (.int j) = decide (i = j) := by
    show PyData.eqv (.int i) (.int j) = _
    simp only [PyData.eqv]; by_cases h : i = j <;> simp [h]
  rw [this]; cases decide (i = j) <;> rfl
end DL

set_option Elab.async false
set_option linter.all false
set_option maxRecDepth 100000
set_option maxHeartbeats 1000000
namespace DL
open PySem L2
@[simp] theorem post_bind' {α β : Type} {x : Out α} {f : α → Ds → Out β} {Q : β → Ds → Prop} {E : Str → List (Str × D) → Ds → Prop} : (x.bind f).post Q E ↔ x.post (fun a s => (f a s).post Q E) E := Iff.rfl
@[simp] theorem post_bind2' {α β : Type} {x : Out α} {g : Str → List (Str × D) → Ds → Out β} {f : α → Ds → Out β} {Q : β → Ds → Prop} {E : Str → List (Str × D) → Ds → Prop} : (x.bind2 g f).post Q E ↔ x.post (fun a s => (f a s).post Q E) (fun c fs s => (g c fs s).post Q E) := Iff.rfl
@[simp] theorem post_bindN' {α β : Type} {x : Out α} {f : α → Ds → Out β} {Q : β → Ds → Prop} {E : Str → List (Str × D) → Ds → Prop} : (x.bindN f).post Q E ↔ x.post (fun a s => (f a s).post Q E) (fun _ _ _ => False) := Iff.rfl
theorem post_ite {α : Type} {c : Prop} [Decidable c] {x y : Out α} {Q : α → Ds → Prop} {E : Str → List (Str × D) → Ds → Prop} : (if c then x else y).post Q E ↔ if c then x.post Q E else y.post Q E := by split <;> rfl
/-! ### comprehensions of what draws nothing -/
section
variable {og : OG} {mt : FB} {me : FE} {ρ : Env} {s : Ds} {mi : FA}
theorem lcF_eq {p : D → Bool} {f : D → D} : ∀ (ds : List D) (n : Nat), (∀ d ∈ ds, ∃ ρ2, og d ρ = some ρ2 ∧ mt ρ2 s = .ok (p d) s ∧ (p d = true → me ρ2 s = .ok (f d) s)) → n + ds.length ≤ sizeLine → lcF og mt me ρ ds n s = .ok ((ds.filter p).map f) s
  | [], n, _, _ => rfl
  | d :: r, n, h, hl => by
    obtain ⟨ρ2, h1, h2, h3⟩ := h d (List.mem_cons_self ..)
    rw [List.length_cons] at hl
    unfold lcF
    rw [h1, optO_some, Out.bind_ok, h2, Out.bindN_ok]
    cases q : p d with
    | false =>
      rw [if_neg (by simp), lcF_eq r n (fun x m => h x (List.mem_cons_of_mem _ m)) (by omega)]
      simp [q]
    | true =>
      rw [if_pos rfl, h3 q, Out.bindN_ok, if_pos (by omega), lcF_eq r (n + 1) (fun x m => h x (List.mem_cons_of_mem _ m)) (by omega)]
      simp [q]
theorem mLc_eq {vs : List Nat} {ds : List D} (p : D → Bool) (f : D → D) (h1 : mi ρ s = .ok ds s) (h2 : ∀ d ∈ ds, ∃ ρ2, og d (wipeD ρ vs) = some ρ2 ∧ mt ρ2 s = .ok (p d) s ∧ (p d = true → me ρ2 s = .ok (f d) s)) (hl : ds.length ≤ sizeLine) :
    mLc mi og mt me vs ρ s = .ok (.lst ((ds.filter p).map f)) s := by
  unfold mLc
  rw [h1, Out.bind_ok, lcF_eq ds 0 h2 (by omega)]
  rfl
theorem lcF_typed {β : Type} {e : β → D} {p : β → Bool} {g : β → D} : ∀ (l : List β) (n : Nat), (∀ b ∈ l, ∃ ρ2, og (e b) ρ = some ρ2 ∧ mt ρ2 s = .ok (p b) s ∧ (p b = true → me ρ2 s = .ok (g b) s)) → n + l.length ≤ sizeLine → lcF og mt me ρ (l.map e) n s = .ok ((l.filter p).map g) s
  | [], n, _, _ => rfl
  | b :: r, n, h, hl => by
    obtain ⟨ρ2, h1, h2, h3⟩ := h b (List.mem_cons_self ..)
    rw [List.length_cons] at hl
    rw [List.map_cons]
    unfold lcF
    rw [h1, optO_some, Out.bind_ok, h2, Out.bindN_ok]
    cases q : p b with
    | false =>
      rw [if_neg (by simp), lcF_typed r n (fun x m => h x (List.mem_cons_of_mem _ m)) (by omega)]
      simp [q]
    | true =>
      rw [if_pos rfl, h3 q, Out.bindN_ok, if_pos (by omega), lcF_typed r (n + 1) (fun x m => h x (List.mem_cons_of_mem _ m)) (by omega)]
      simp [q]
/-- over a list of things of one's own kind -/
theorem mLc_if {β : Type} {vs : List Nat} (l : List β) (e : β → D) (p : β → Bool) (g : β → D) (h1 : mi ρ s = .ok (l.map e) s) (h2 : ∀ b ∈ l, ∃ ρ2, og (e b) (wipeD ρ vs) = some ρ2 ∧ mt ρ2 s = .ok (p b) s ∧ (p b = true → me ρ2 s = .ok (g b) s)) (hl : l.length ≤ sizeLine) :
    mLc mi og mt me vs ρ s = .ok (.lst ((l.filter p).map g)) s := by
  unfold mLc
  rw [h1, Out.bind_ok, lcF_typed l 0 h2 (by omega)]
  rfl
theorem mLc_of {β : Type} {vs : List Nat} (l : List β) (e : β → D) (g : β → D) (h1 : mi ρ s = .ok (l.map e) s) (h2 : ∀ b ∈ l, ∃ ρ2, og (e b) (wipeD ρ vs) = some ρ2 ∧ me ρ2 s = .ok (g b) s) (hl : l.length ≤ sizeLine) :
    mLc mi og mYes me vs ρ s = .ok (.lst (l.map g)) s := by
  rw [mLc_if (mt := mYes) l e (fun _ => true) g h1 (fun d m => let ⟨ρ2, a, b⟩ := h2 d m; ⟨ρ2, a, rfl, fun _ => b⟩) hl, List.filter_eq_self.mpr (fun _ _ => rfl)]
/-- without a test -/
theorem mLc_map {vs : List Nat} {ds : List D} (f : D → D) (h1 : mi ρ s = .ok ds s) (h2 : ∀ d ∈ ds, ∃ ρ2, og d (wipeD ρ vs) = some ρ2 ∧ me ρ2 s = .ok (f d) s) (hl : ds.length ≤ sizeLine) :
    mLc mi og mYes me vs ρ s = .ok (.lst (ds.map f)) s := by
  rw [mLc_eq (mt := mYes) (fun _ => true) f h1 (fun d m => let ⟨ρ2, a, b⟩ := h2 d m; ⟨ρ2, a, rfl, fun _ => b⟩) hl, List.filter_eq_self.mpr (fun _ _ => rfl)]
end
theorem oAll_map {α : Type} (l : List α) (g : α → Bool) : oAll [.lst (l.map fun x => .bl (g x))] = some (.bl (l.all g)) := by
  show (D.bls (l.map fun x => .bl (g x))).map _ = _
  have : (l.map fun x => D.bl (g x)) = (l.map g).map D.bl := by simp
  rw [this, bls_map]
  simp [List.all_map]
theorem rangeD_eq (n : Nat) : rangeD 0 n = (List.range n).map fun i => .int (i : Int) := by
  unfold rangeD
  congr
  funext i
  simp
theorem oRange1_nat {n : Nat} (h : n ≤ 1000) : oRange1 [.int (n : Int)] = some ((List.range n).map fun i => .int (i : Int)) := by
  unfold oRange1
  have h1 : (n : Int).natAbs < 2 ^ 62 := by rw [Int.natAbs_natCast]; exact Nat.lt_of_le_of_lt h (by decide)
  simp only [h1, if_true, Int.toNat_natCast, rangeD_eq]
/-! ### draws -/
theorem next_post {a : Addr} {n : Int} {ob : List (Addr × D)} {k : Int} {Q : D → Ds → Prop} {E : Str → List (Str × D) → Ds → Prop} (h1 : 1 ≤ k) (h2 : k < 1000000) (h3 : n < 10 ^ 15) (h : ∀ r : Int, 0 ≤ r → r < k → Q (.int r) ⟨some (a, n + 1), ob⟩) : (c_law_next [.ref a, .int k] ⟨some (a, n), ob⟩).post Q E := by
  unfold c_law_next
  dsimp only
  rw [if_pos ⟨rfl, h1, h2, h3⟩]
  exact fun r r0 r1 => h r r0 r1
/-! ### isinstance of plain things -/
theorem fIsiS_ty {S : Tg → D → Option Bool} {d : D} {t : String} {k : D} {b : Bool} {s : Ds} (ht : tyD d = some t) (hk : ∀ ks, k ≠ .tup ks) (h : S (.inl t) k = some b) : fIsiS S [d, k] s = .ok (.bl b) s := by
  unfold fIsiS
  have e : tagD s d = some (.inl t) := by unfold tagD; rw [ht]
  have : oIsiS S s [d, k] = some b := by
    unfold oIsiS
    split
    · rename_i q; exact absurd (List.cons.inj (List.cons.inj q).2).1 (hk _)
    · rename_i q; cases q; rw [e]; exact h
    · rename_i q1 q2; exact absurd rfl (q2 _ _)
  rw [this]; rfl
theorem isi_tab : ∀ t ∈ tyNames, ∀ T ∈ ["bool", "int", "str", "tuple", "list", "dict"], isiS (.inl t) (.ty T) = some (isiB t T) := by decide +kernel
def isT (T : String) (d : D) : Bool := match tyD d with
  | some t => isiB t T
  | none => false
theorem tyD_mem {d : D} {t : String} (h : tyD d = some t) : t ∈ tyNames := by
  cases d <;> first | (cases h; done) | (cases h; decide)
theorem isi_eq {d : D} {T : String} {s : Ds} (h : (tyD d).isSome = true) (hT : T ∈ ["bool", "int", "str", "tuple", "list", "dict"]) : fIsiS isiS [d, .ty T] s = .ok (.bl (isT T d)) s := by
  cases q : tyD d with
  | none => rw [q] at h; cases h
  | some t =>
    have e : isT T d = isiB t T := by unfold isT; rw [q]
    rw [e]
    exact fIsiS_ty q (fun ks z => nomatch z) (isi_tab t (tyD_mem q) T hT)
theorem rp_ty {d : D} (h : d.rp = true) : (tyD d).isSome = true := by cases d <;> first | rfl | (cases h; done)
theorem rp_own {d : D} (h : d.rp = true) : noOwn d = some d := by cases d <;> first | rfl | (cases h; done)
end DL

set_option Elab.async false
set_option linter.all false
set_option maxRecDepth 100000
set_option maxHeartbeats 1000000
namespace DL
open PySem L2 PySem.Spec PyProof.Rows
/-! ### targets of any shape -/
abbrev OGl := List D → Env → Option Env
def ogNil : OGl
  | [], ρ => some ρ
  | _ :: _, _ => none
def ogCons (o : OG) (l : OGl) : OGl
  | d :: r, ρ => match o d ρ with
    | some ρ' => l r ρ'
    | none => none
  | [], _ => none
def ogTup (l : OGl) : OG := fun d ρ => match tupD d with
  | some ds => l ds ρ
  | none => none
def GFl (g : DGl) (o : OGl) : Prop := ∀ ds ρ ρ' (Q : Env → Prop), o ds ρ = some ρ' → Q ρ' → g ds ρ Q
theorem gfl_nil : GFl gdNil ogNil := fun ds ρ ρ' Q h q => by
  cases ds with
  | nil => cases h; exact ⟨rfl, q⟩
  | cons _ _ => cases h
theorem gfl_cons {g : DG} {o : OG} {gl : DGl} {ol : OGl} (h1 : GF g o) (h2 : GFl gl ol) : GFl (gdCons g gl) (ogCons o ol) := fun ds ρ ρ' Q h q => by
  cases ds with
  | nil => cases h
  | cons d r =>
    have h' : (match o d ρ with | some ρ' => ol r ρ' | none => none) = some ρ' := h
    cases e : o d ρ with
    | none => rw [e] at h'; cases h'
    | some ρ1 => rw [e] at h'; exact ⟨d, r, rfl, h1 d ρ ρ1 _ e (h2 r ρ1 ρ' Q h' q)⟩
theorem gf_tup {gl : DGl} {ol : OGl} (h : GFl gl ol) : GF (gdTup gl) (ogTup ol) := fun d ρ ρ' Q e q => by
  unfold ogTup at e
  cases z : tupD d with
  | none => rw [z] at e; cases e
  | some ds => rw [z] at e; exact ⟨ds, tupD_eq z, h ds ρ ρ' Q e q⟩
theorem mono_tup {gl : DGl} (h : Mons gl) (hx : ∀ ds ρ Q, gl ds ρ Q → ∃ ρ', Q ρ') : ∀ d ρ Q, gdTup gl d ρ Q → ∃ ρ', Q ρ' := fun _ _ _ ⟨_, _, q⟩ => hx _ _ _ q
@[simp] theorem ogNil_r {ρ : Env} : ogNil [] ρ = some ρ := rfl
@[simp] theorem ogCons_r {o : OG} {l : OGl} {d : D} {r : List D} {ρ : Env} : ogCons o l (d :: r) ρ = (match o d ρ with | some ρ' => l r ρ' | none => none) := rfl
@[simp] theorem ogTup_tup {l : OGl} {ds : List D} {ρ : Env} : ogTup l (.tup ds) ρ = l ds ρ := rfl
@[simp] theorem ogTup_tpw {l : OGl} {ds : List D} {ρ : Env} : ogTup l (.tpw ds) ρ = l ds ρ := rfl
/-! ### is None -/
def isNon : D → Bool
  | .non => true
  | _ => false
theorem Dp.isNon {M : Md} {B : Hp} {v : V} {d : D} (h : Dp M B v d) : decide (v = .non) = DL.isNon d := by cases h <;> rfl
def oIs (neg : Bool) : O2
  | x, .non => some (.bl (isNon x != neg))
  | _, _ => none
def fIs (neg : Bool) : F2 := fun x y Q => y = .non ∧ Q (.bl (isNon x != neg))
theorem of_is {neg : Bool} : OpF (fIs neg) (oIs neg) := by
  intro x y z Q h q
  cases y with
  | non => cases h; exact ⟨rfl, q⟩
  | _ => cases h
abbrev oIsN : O2 := oIs false
abbrev oIsNot : O2 := oIs true
section
variable {X : Cx} {W : WX} {a b : Expr} {ma mb : FE} {pos : Pos}
theorem opIs {M : Md} : OpD M (fun x y H Q => y = .non ∧ Q (.bl (decide (x = .non))) H) (fIs false) := by
  intro R Fz B H x y dx dy Qd Q w hx hy ⟨e, q⟩ k
  subst e
  refine ⟨hy.ofNon, ?_⟩
  rw [hx.isNon]
  refine k _ H B _ (Ex.refl B) w (.bl _) ?_
  rw [Bool.bne_false] at q; exact q
theorem opIsNot {M : Md} : OpD M (fun x y H Q => y = .non ∧ Q (.bl (!decide (x = .non))) H) (fIs true) := by
  intro R Fz B H x y dx dy Qd Q w hx hy ⟨e, q⟩ k
  subst e
  refine ⟨hy.ofNon, ?_⟩
  rw [hx.isNon]
  refine k _ H B _ (Ex.refl B) w (.bl _) ?_
  rw [Bool.bne_true] at q; exact q
theorem me_isN (ha : ME X W a ma) (hb : ME X W b mb) : ME X W (.Compare a [.Is] [b] pos) (mBin oIsN ma mb) := me_bin of_is (de_cmp op_isN opIs ha hb (nomark _))
theorem me_isNot (ha : ME X W a ma) (hb : ME X W b mb) : ME X W (.Compare a [.IsNot] [b] pos) (mBin oIsNot ma mb) := me_bin of_is (de_cmp op_notN opIsNot ha hb (nomark _))
theorem mt_isN (ha : ME X W a ma) (hb : ME X W b mb) : MT X W (.Compare a [.Is] [b] pos) (mTest (mBin oIsN ma mb)) := mt_bin of_is (dt_cmp op_isN opIs ha hb (nomark _))
theorem mt_isNot (ha : ME X W a ma) (hb : ME X W b mb) : MT X W (.Compare a [.IsNot] [b] pos) (mTest (mBin oIsNot ma mb)) := mt_bin of_is (dt_cmp op_notN opIsNot ha hb (nomark _))
end
/-! ### == by an own __eq__ -/
/-- what stands at the right: a built-in thing, or one of the class -/
def EqY (K : PySem.W.Frag) (C : Addr) (H : Hp) (y : V) : Prop := (∃ t, TyX K H y (.type t) ∧ PySem.W.notFirst K C (.type t) = true) ∨ ∃ b dy gs, y = .ref b ∧ H b = some (.ins C dy gs)
def rEqO (K : PySem.W.Frag) (C : Addr) (sp : Sp) : R2 := fun x y H Q => ∃ a dx fs, x = .ref a ∧ H a = some (.ins C dx fs) ∧ EqY K C H y ∧ sp [x, y] H Q fun _ _ _ => False
section
variable {X : Cx} {W : WX} {a b : Expr} {ma mb : FE} {pos : Pos}
theorem op_eqO {k : Nat} {C f : Addr} {fd : FuncData} {ps : List Str} {sp : Sp} (hm : Meth X.K C "__eq__" f) (F : FnG X.prog X.w X.K X.mg X.base (L2.CX X.prog X.w) k f fd ps sp) (hr : Room k X.A) (hgd : X.A.guards = some []) (hb : Binds X.K fd ps []) : OpR X (compareOp .Eq) (rEqO X.K C sp) := by
  intro pins s σ H x y v u Q I rx ry ⟨a, dx, fs, ex, ha, hy, q⟩
  subst ex
  cases (show v = Value.ref a from rx)
  obtain ⟨mA, J, _⟩ := ins_get I.hok ha
  obtain ⟨od, J, _⟩ := J.look
  obtain ⟨m, hF⟩ := I.fr
  obtain ⟨tb, L, hn⟩ : ∃ tb, PySem.W.Looks (model X.prog X.w) s.heap (typeOf u) tb ∧ PySem.W.notFirst X.K C tb = true := by
    rcases hy with ⟨t, ty, hn⟩ | ⟨b, dy, gs, ey, hb'⟩
    · obtain ⟨P, kx, hP, _⟩ := kit_of I ry ty
      exact ⟨_, kx.ty _ _ I.kIn hP, hn⟩
    · subst ey
      cases (show u = Value.ref b from ry)
      obtain ⟨mB, J', _⟩ := ins_get I.hok hb'
      obtain ⟨od', J', _⟩ := J'.look
      exact ⟨.ref C, J'.type, by simp [PySem.W.notFirst]⟩
  show wpAny (model X.prog X.w) X.A (richCompare .Eq (.ref a) u) (EP X pins σ Q) X.xe s
  refine PySem.W.cmp_K (op := .Eq) (tb := tb) hr.units0 hF I.ok.mod.kin J L hn hm.at_ hm.fn ?_
  refine wpAny_mono (run_g (us := [.ref a, u]) (vs := [.ref a, y]) F hr hgd hb (passAt takes0 σ) I (.cons rfl (.cons ry .nil)) q) (fun w s' z => ?_) fun _ _ x => x
  obtain ⟨z', H', I', rz, qz⟩ := z
  exact SlX.cmpback rz ⟨z', H', I', rz, qz⟩
/-- is the right one known -/
def eqArg (c : Str) (s : Ds) (y : D) : Bool := (tyD y).isSome || (match insD s y with | some (c', _) => decide (c' = c) | none => false)
def mEqO (c : Str) (f : FF) (ma mb : FE) : FE := fun ρ s => (ma ρ s).bind fun x s => (mb ρ s).bind fun y s => if (metD c "__eq__" s x && eqArg c s y) = true then (f [x, y] s).bindN .ok else .err
/-- no built-in class stands below the class c -/
def NfK (K : PySem.W.Frag) (mg : Str → Option Value) (c : Str) : Prop := ∀ C, mg c = some (.ref C) → ∀ t ∈ tyNames, PySem.W.notFirst K C (.type t) = true
theorem eqO_lift {c : Str} {C : Addr} {f : FF} (hC : X.mg c = some (.ref C)) (nf : NfK X.K X.mg c) {σ : L2.St} {H : Hp} {Q : VK} (h : lift X.md W (cps X.md (mEqO c f ma mb)) σ H Q) : tOp (rEqO X.K C (spL X.md (spF X.md f))) (lift X.md W (cps X.md ma)) (lift X.md W (cps X.md mb)) σ H Q := by
  obtain ⟨R, Fz, B, ρ, Qd, E, w, sl, ⟨s, hs, q⟩, k, x⟩ := h
  subst hs
  refine ⟨_, Fz, B, ρ, fun R d => ∃ s, R = resOf X.md s ∧ ((mb ρ s).bind fun y s => if (metD c "__eq__" s d && eqArg c s y) = true then (f [d, y] s).bindN .ok else .err).post (fun d s' => Qd (resOf X.md s') d) (fun c fs s' => E (resOf X.md s') c fs), E, w, sl, ⟨s, rfl, Out.post_mono (fun d s1 h1 => ⟨s1, rfl, h1⟩) (fun _ _ _ z => z) _ q⟩, fun R1 v H1 B1 d e1 w1 h1 ⟨s1, hR, q1⟩ => ?_, x⟩
  subst hR
  refine ⟨_, Fz, B1, ρ, fun R y => ∃ s, R = resOf X.md s ∧ (if (metD c "__eq__" s d && eqArg c s y) = true then (f [d, y] s).bindN .ok else .err : Out D).post (fun d s' => Qd (resOf X.md s') d) (fun c fs s' => E (resOf X.md s') c fs), E, w1, sl.mono e1, ⟨s1, rfl, Out.post_mono (fun y s2 h2 => ⟨s2, rfl, h2⟩) (fun _ _ _ z => z) _ q1⟩, fun R2 u H2 B2 y e2 w2 h2 ⟨s2, hR2, q2⟩ => ?_, x.mono e1⟩
  subst hR2
  by_cases z : (metD c "__eq__" s2 d && eqArg c s2 y) = true
  · rw [if_pos z] at q2
    obtain ⟨z1, z2⟩ := Bool.and_eq_true_iff.mp z
    have h1' := h1.mono e2
    unfold metD at z1
    split at z1
    · rename_i c' fs hi
      obtain ⟨hc, _⟩ := Bool.and_eq_true_iff.mp z1
      have hc := of_decide_eq_true hc
      subst hc
      obtain ⟨a, C', dx, vs, rfl, hm, hH, hf⟩ := insD_at w2 h1' hi
      have eC : C' = C := by
        have := hm.symm.trans hC
        cases this; rfl
      subst eC
      refine ⟨a, dx, vs, rfl, hH, ?_, _, Fz, B2, [d, y], Qd, fun _ _ _ => False, w2, .cons h1' (.cons h2 .nil), ⟨s2, rfl, q2⟩, k.mono (e1.trans e2), fun _ _ _ _ _ _ _ _ _ _ _ _ _ z => z⟩
      unfold eqArg at z2
      rcases Bool.or_eq_true_iff.mp z2 with z2 | z2
      · obtain ⟨t, ht⟩ := Option.isSome_iff_exists.mp z2
        exact .inl ⟨t, h2.tyx w2.ex ht, nf _ hC t (tyD_mem ht)⟩
      · split at z2
        · rename_i c2 fs2 hi2
          have hc2 := of_decide_eq_true z2
          subst hc2
          obtain ⟨b, C2, dy, vs2, rfl, hm2, hH2, hf2⟩ := insD_at w2 h2 hi2
          have eC2 : C2 = C' := by
            have := hm2.symm.trans hC
            cases this; rfl
          subst eC2
          exact .inr ⟨b, dy, vs2, rfl, hH2⟩
        · cases z2
    · cases z1
  · rw [if_neg z] at q2; exact q2.elim
theorem me_eqO {k j : Nat} {c : Str} {ps : List Str} {f : FF} (h : OkM X.prog X.w X.K X.mg X.base j c "__eq__" ps (spF X.md f)) (hr : Room k X.A) (hj : j ≤ k) (hgd : X.A.guards = some []) (nf : NfK X.K X.mg c) (ha : ME X W a ma) (hb : ME X W b mb) : ME X W (.Compare a [.Eq] [b] pos) (mEqO c f ma mb) :=
  let ⟨_, _, _, hC, _, hm, hbd, F⟩ := h
  (pe_cmpR (op_eqO hm F (hr.mono hj) hgd hbd) ha hb (nomark _)).imp fun _ _ _ h => eqO_lift hC nf h
theorem mt_eqO {k j : Nat} {c : Str} {ps : List Str} {f : FF} (h : OkM X.prog X.w X.K X.mg X.base j c "__eq__" ps (spF X.md f)) (hr : Room k X.A) (hj : j ≤ k) (hgd : X.A.guards = some []) (nf : NfK X.K X.mg c) (ha : ME X W a ma) (hb : ME X W b mb) : MT X W (.Compare a [.Eq] [b] pos) (mTest (mEqO c f ma mb)) :=
  let ⟨_, _, _, hC, _, hm, hbd, F⟩ := h
  (pt_cmpR (op_eqO hm F (hr.mono hj) hgd hbd) ha hb (nomark _)).imp fun σ H Q ⟨R, Fz, B, ρ, Qd, E, w, sl, q, k, x⟩ =>
    eqO_lift hC nf ⟨R, Fz, B, ρ, fun R d => ∃ b, d = .bl b ∧ Qd R b, E, w, sl, by
      obtain ⟨s, hs, q⟩ := q
      refine ⟨s, hs, Out.post_mono (fun d s1 h1 => ?_) (fun _ _ _ z => z) _ ((Out.post_bind _).mp q)⟩
      cases d with
      | bl b => exact ⟨b, rfl, h1⟩
      | _ => exact h1.elim, fun R v H1 B1 d e1 w1 h1 ⟨b, hb, q1⟩ => by subst hb; exact ⟨b, h1.ofBl, k R b H1 B1 e1 w1 q1⟩, x⟩
end
section
variable {ρ : Env} {s : Ds} {ma mb : FE} {mo : FE} {mr : FA}
@[simp] theorem mEqO_r {c : Str} {f : FF} : mEqO c f ma mb ρ s = (ma ρ s).bind fun x s => (mb ρ s).bind fun y s => if (metD c "__eq__" s x && eqArg c s y) = true then (f [x, y] s).bindN .ok else .err := rfl
@[simp] theorem mMeth_r {c m : Str} {f : FF} : mMeth c m f mo mr ρ s = (mo ρ s).bind fun x s => if metD c m s x = true then (mr ρ s).bind fun ds s => f (x :: ds) s else .err := rfl
@[simp] theorem oIs_non {neg : Bool} {x : D} : oIs neg x .non = some (.bl (isNon x != neg)) := rfl
end
end DL

set_option Elab.async false
set_option linter.all false
set_option maxRecDepth 100000
set_option maxHeartbeats 1000000
namespace DL
open PySem L2 PySem.Spec PyProof.Rows
/-! ### lambdas with one parameter that has a number as default, and is not read -/
structure LamP (N : List Str) (sc scope : Scope) (a : Str) : Prop where
  kind : scope.kind = .function
  co : scope.isCoroutine = false
  gen : scope.isGenerator = false
  nocell : ∀ y ∈ scope.names, y.2 ≠ .cell
  loc : ∀ y ∈ scope.names, y.2 = .local → y.1 = a
  free : ∀ y ∈ scope.names, y.2 = .free → sc.names.lookup y.1 = some .cell ∨ sc.names.lookup y.1 = some .free
  par : scope.names.lookup a = some .local
  out : a ∉ N
def lamPB (N : List Str) (sc scope : Scope) (a : Str) : Bool := decide (scope.kind = .function) && (!scope.isCoroutine && (!scope.isGenerator && ((scope.names.all fun y => !decide (y.2 = .cell)) && ((scope.names.all fun y => !decide (y.2 = .local) || decide (y.1 = a)) &&
  ((scope.names.all fun y => !decide (y.2 = .free) || (decide (sc.names.lookup y.1 = some .cell) || decide (sc.names.lookup y.1 = some .free))) && (decide (scope.names.lookup a = some .local) && !decide (a ∈ N)))))))
theorem lamP_by {N : List Str} {sc scope : Scope} {a : Str} (h : lamPB N sc scope a = true) : LamP N sc scope a := by
  unfold lamPB at h
  simp only [Bool.and_eq_true, Bool.or_eq_true, Bool.not_eq_true', decide_eq_true_eq, decide_eq_false_iff_not, List.all_eq_true] at h
  obtain ⟨h1, h2, h3, h4, h5, h6, h7, h8⟩ := h
  exact ⟨h1, h2, h3, h4, fun y hy e => (h5 y hy).resolve_left fun n => n e, fun y hy e => (h6 y hy).resolve_left fun n => n e, h7, h8⟩
section
variable {X : Cx} {pins : List (Addr × Obj)} {σ : L2.St} {H HZ : Hp} {s s1 : Shared}
theorem LamP.has {scope : Scope} {a : Str} (L : LamP X.N X.env.scope scope a) (ok : X.Ok) : ∀ y ∈ scope.names, y.2 = .free → ∃ c, X.env.cells.lookup y.1 = some c := fun y hy e => by
  rcases L.free y hy e with z | z
  · exact ok.has _ (.inl z)
  · exact ok.has _ (.inr z)
/-- making it -/
theorem lamD_mk {B : Hp} {c P : Addr} {ps : Array Value} {params : Arguments} {body : Expr} {scope : Scope} {pos pc : Pos} {i : Int} {kc : Nat} {E : Value → Shared → Prop} {Q : Value → Shared → Prop} (I : Inv X pins σ H s) (TB : LamX.TabB X.base X.mg c P) (hcode : X.env.code = .ref c)
    (hP : H P = some (.tbl ps)) (hT : TabH B ps (X.env.qual ++ "<lambda>")) (hdef : defaultsOf params X.env = ([eval (.Constant (.int i) kc pc) X.env], [])) (hfree : ∀ y ∈ scope.names, y.2 = .free → ∃ c, X.env.cells.lookup y.1 = some c) (hxe : ∀ e s', X.xe e s' → E e s')
    (h : ∀ (f c' t : Addr) (u doc pm ctv : Value) (H1 : Hp) (s' : Shared), Inv X pins σ H1 s' → Grew B H H1 P c' ps (X.env.qual ++ "<lambda>") →
      s'.heap.get? f = some (PySem.W.kdv_obj "<lambda>" (X.env.qual ++ "<lambda>") params (.expr body) scope (cloFrom X.env.cells scope.names []) (.ref t) doc pm c' ctv) → H1 f = none → f ∉ frs X.stack → s'.heap.get? t = some (PySem.W.kdv_tup [u]) → H1 t = none → t ∉ frs X.stack → Q (.ref f) s') :
    wpAny (model X.prog X.w) X.A (eval (.Lambda params body scope pos) X.env) Q E s := by
  rw [arm_eval_Lambda, hdef]
  show wpAny _ _ (do let dv ← evalAll [eval (.Constant (.int i) kc pc) X.env]; let kdv ← holding dv (evalAllOpt []); makeFunction "<lambda>" (X.env.qual ++ "<lambda>") params (.expr body) scope X.env dv kdv [] pos pos.line) Q E s
  have e0 := wpAny_mono ((pe_int (X := X) (i := i) (j := kc) (pos := pc)).run pins s σ H (fun v H1 => v = .int i ∧ H1 = H) I ⟨rfl, rfl⟩) (fun _ _ z => z) hxe
  refine wpAny_bind (evalAll_cons (wpAny_mono e0 (fun u s1 ⟨v, H1, I1, _, _, eH⟩ => ?_) fun _ _ z => z))
  subst eH
  refine wpAny_pure (wpAny_bind (wpAny_holding (wpAny_pure ?_)))
  rw [makeFunction_eq]
  simp only [List.zip_nil_right, List.filterMap_nil, List.isEmpty_nil, List.isEmpty_cons, if_true, pure_bind, Bool.false_eq_true, if_false]
  refine wpAny_bind (wpAny_newTextTuple ?_)
  have szT : s1.heap.objs.size < (s1.heap.push (PySem.W.kdv_tup [u])).objs.size := by rw [Heap.size_push]; exact Nat.lt_succ_self _
  have I2 : Inv X pins σ H1 { s1 with heap := s1.heap.push (PySem.W.kdv_tup [u]) } := I1.kept (t' := s1.toks) fun b o e => Heap.get?_push_of_some _ e
  have hP' := I2.hok P _ hP
  have bP := TB.bm.keeps I2.bk
  have tn : H1 s1.heap.objs.size = none := I1.hok.fresh (Nat.le_refl _)
  have tf : s1.heap.objs.size ∉ frs X.stack := new_nofr I1 (Nat.le_refl _)
  have tg : (s1.heap.push (PySem.W.kdv_tup [u])).get? s1.heap.objs.size = some (PySem.W.kdv_tup [u]) := Heap.get?_push_size _ rfl
  cases hc : codeAmong pos ps.toList with
  | some cv =>
    obtain ⟨c', rfl, hco⟩ := hT.2 pos cv hc
    refine PySem.W.kdv_makeTailHit (mg := X.mg) (c := c) (P := P) (ps := ps) (closure_ok hfree) I2.ok.glob (I2.mod.glob.keeps I2.bk) hcode (TB.code.keeps I2.bk) hP' hT.1 hc bP fun ctv doc h' tk hx hsz => ?_
    exact h h'.objs.size c' s1.heap.objs.size u doc _ ctv H1 _ (I2.kept fun b o e => Heap.get?_push_of_some _ (hx b o e)) (.inl ⟨rfl, hco⟩) (Heap.get?_push_size _ rfl) (I2.hok.fresh hsz) (new_nofr I2 hsz) (Heap.get?_push_of_some _ (hx _ _ tg)) tn tf
  | none =>
    refine PySem.W.kdv_makeTail (mg := X.mg) (c := c) (P := P) (ps := ps) (closure_ok hfree) I2.ok.glob (I2.mod.glob.keeps I2.bk) hcode (TB.code.keeps I2.bk) hP' hT.1 hc TB.gP bP fun c' ctv doc h' tk hx hge hlt hrec htb => ?_
    obtain ⟨c2, oc, vs, t, e2, hoc, hd, hv⟩ := hrec
    cases e2
    have hsz : (s1.heap.push (PySem.W.kdv_tup [u])).objs.size ≤ h'.objs.size := Nat.le_trans hge (Nat.le_of_lt hlt)
    have nPt : s1.heap.objs.size ≠ P := fun z => by rw [z, hP] at tn; cases tn
    have I3 := LamX.inv_table (t' := tk) (q := X.env.qual ++ "<lambda>") (more := #[rawInt pos.line, rawInt pos.col, .ref c']) (h' := h'.push (PySem.W.kdv_obj "<lambda>" (X.env.qual ++ "<lambda>") params (.expr body) scope (cloFrom X.env.cells scope.names []) (.ref s1.heap.objs.size) doc ((X.mg "__name__").getD .none) c' ctv)) I2 hP
      (fun b o hb e => Heap.get?_push_of_some _ (hx b o hb e)) (Heap.get?_push_of_some _ htb) hge ⟨oc, vs, t, Heap.get?_push_of_some _ hoc, hd, hv⟩
    have eL : (ps ++ #[rawInt pos.line, rawInt pos.col, .ref c']).toList = ps.toList ++ [rawInt pos.line, rawInt pos.col, .ref c'] := by simp
    refine h h'.objs.size c' s1.heap.objs.size u doc _ ctv _ _ I3 (.inr ⟨I2.hok.fresh hge, _, rfl, by rw [eL]; exact PySem.TriplesOk_snoc _ _ _ _ hT.1, fun p' cv hcv => ?_⟩) (Heap.get?_push_size _ rfl) ?_ (new_nofr I2 hsz) (Heap.get?_push_of_some _ (hx _ _ nPt tg)) ?_ tf
    · rw [eL] at hcv
      exact LamX.among_app _ hT.1 hcv
    · rw [upd_ne (Nat.ne_of_gt hlt), upd_ne (Nat.ne_of_gt (Nat.lt_of_lt_of_le (Heap.lt_size hP') hsz))]
      exact I2.hok.fresh hsz
    · rw [upd_ne (Nat.ne_of_lt (Nat.lt_of_lt_of_le szT hge)), upd_ne nPt]
      exact tn
/-- its body is entered (follows the kit's LamX.lam_start2) -/
theorem lamD_start {A : Around} {outer : List PySem.Env} {E : XK} {scope : Scope} {f c' : Addr} {h₁ : Heap} {tk : Nat} {a : Str} {bs : List (Str × Value)} (I : Inv X pins σ H s) (L : LamP X.N X.env.scope scope a) (e0 : Env0 X.prog X.w X.K X.mg X.base A outer s1 HZ) (hd : A.handled = none)
    (un : Un (frs X.stack) [] H HZ s.heap s1.heap) (hns : h₁.Ns s1.heap.objs.size fun y => bs.reverse.lookup y) (kp : ∀ b o, s1.heap.get? b = some o → h₁.get? b = some o) :
    Inv (LamX.lamCx X A outer s1 HZ E scope f c') [] σ HZ { s1 with heap := h₁, toks := tk } := by
  have hfree := L.has I.ok
  have cm : ∀ {y c}, (cloFrom X.env.cells scope.names []).lookup y = some c → X.env.cells.lookup y = some c := fun {y c} e => by
    rcases cloFrom_mem (PySem.mem_of_lookup e) with hm | ⟨h1, h2⟩
    · cases hm
    · obtain ⟨c1, hc⟩ := hfree _ h1 rfl
      have hc : X.env.cells.lookup y = some c1 := hc
      have e2 : c = c1 := by rw [h2, hc] <;> rfl
      rw [e2]; exact hc
  have look : ∀ {y}, scope.names.lookup y = some .free → ∃ c, (cloFrom X.env.cells scope.names []).lookup y = some c := fun {y} hl => mem_lookup (cloFrom_has (cells := X.env.cells) (acc := []) (PySem.mem_of_lookup hl))
  have cellK : ∀ {c : Addr} {v : Option Value}, H c = none → s.heap.IsCell c v → h₁.IsCell c v := fun {c v} n ⟨o, ho, hd⟩ => by
    obtain ⟨sl, q⟩ := un.any ho n (by simp)
    exact ⟨_, kp _ _ q, hd⟩
  have noA : ∀ b : Addr, b ∉ (LamX.lamCx X A outer s1 HZ E scope f c').ex := fun b z => absurd (show b ∈ ([] : List Addr) from z) (by simp)
  refine ⟨⟨e0.mod, L.kind, rfl, rfl, Nat.le_refl _, fun y z c e1 e2 => I.ok.inj y z c (cm e1) (cm e2), fun y hy => ?_, fun y c z _ => ?_, fun _ => hd, Around.frames_deeper e0.frames, .inr ⟨rfl, rfl⟩, fun b z => absurd z (noA b), e0.bs, e0.bsz, fun b _ _ => noA b,
      fun b z => absurd z (noA b), e0.funs, e0.frf⟩,
    rfl, e0.bare, Un.kept kp, ⟨_, hns, fun i y v e1 e2 e3 => ?_⟩, fun y c e => ?_, e0.hok.fresh (Nat.le_refl _), fun y c e => ?_, fun q hq => absurd (show q ∈ ([] : List (Addr × Obj)) ++ [] from hq) (by simp), e0.hok.kept kp, I.len⟩
  · rcases (show scope.names.lookup y = some .cell ∨ scope.names.lookup y = some .free from hy) with hy | hy
    · exact absurd rfl (L.nocell _ (PySem.mem_of_lookup hy))
    · exact look hy
  · cases (show false = true from z)
  · rcases (show Vis scope y from e3) with k | k | k
    · have ey : y = a := L.loc _ (PySem.mem_of_lookup k) rfl
      exact absurd (List.mem_of_getElem? e1) (by rw [ey]; exact L.out)
    · exact absurd rfl (L.nocell _ (PySem.mem_of_lookup k))
    · obtain ⟨m, hn, hl⟩ := I.loc
      have hvis : Vis X.env.scope y := (L.free _ (PySem.mem_of_lookup k) rfl).elim (fun k => .inr (.inl k)) (fun k => .inr (.inr k))
      obtain ⟨w', r, q⟩ := hl i y v e1 e2 hvis
      obtain ⟨c2, h2⟩ := look k
      refine ⟨w', r, .inr ⟨.inr k, c2, h2, ?_⟩⟩
      have c1 := cm h2
      rcases q with ⟨k', _⟩ | ⟨_, c3, e', z⟩
      · have k' : X.env.scope.names.lookup y = some .local := k'
        rcases L.free _ (PySem.mem_of_lookup k) rfl with k2 | k2 <;> rw [show X.env.scope.names.lookup y = _ from k2] at k' <;> cases k'
      · rw [c1] at e'
        cases e'
        exact cellK (I.freeC y _ c1) z
  · obtain ⟨w', z⟩ := I.cell y c (cm e)
    exact ⟨w', cellK (I.freeC y c (cm e)) z⟩
  · obtain ⟨v, o, ho, hd⟩ := I.cell y c (cm e)
    exact un.free c o ho (I.freeC y c (cm e)) (by simp)
end
end DL

set_option Elab.async false
set_option linter.all false
set_option maxRecDepth 100000
set_option maxHeartbeats 1000000
namespace DL
open PySem L2 PySem.Spec PyProof.Rows
/-- what a call without arguments binds: the default -/
def BindD (params : Arguments) (body : Expr) (scope : Scope) (a : Str) : Prop := ∀ (q : Str) (cl : List (Str × Addr)) (t : Addr) (doc pm cv ctv : Value), ∃ k : Option (Array Value) → Sem (List (Str × Value)),
  bindArgs (PySem.W.kdv_fn "<lambda>" q params (.expr body) scope cl (.ref t) doc pm cv ctv) ⟨[], []⟩ = (seqItems? (.ref t) >>= k) ∧ ∀ u : Value, k (some #[u]) = pure [(a, u)]
section
variable {X : Cx} {pins : List (Addr × Obj)} {σ : L2.St} {H HZ : Hp} {s s1 : Shared}
/-- x(), x such a lambda (follows pe_actS) -/
theorem pe_actD {CXg : CXT} {Eg : XK} {Ng : List Str} {qg : Str} {sg : Scope} {g f c' t : Addr} {u cdg doc pm ctv : Value} {params : Arguments} {body : Expr} {scope : Scope} {k i : Nat} {a b : Str} {pn : List (Addr × Obj)} {xe : Value → Shared → Prop} {W : WX} {tb : XK → TE} {p1 p2 : Pos}
    (I : Inv X pins σ H s) (L : LamP X.N X.env.scope scope b) (hf : s.heap.get? f = some (PySem.W.kdv_obj "<lambda>" (X.env.qual ++ "<lambda>") params (.expr body) scope (cloFrom X.env.cells scope.names []) (.ref t) doc pm c' ctv)) (hfn : H f = none) (hfr : f ∉ frs X.stack)
    (ht : s.heap.get? t = some (PySem.W.kdv_tup [u])) (htn : H t = none) (htr : t ∉ frs X.stack) (hbind : BindD params body scope b)
    (tk : Takes ((cxOf CXg X.prog X.w X.K X.mg X.base Ng qg sg g cdg X.A X.stack s H Eg).tr pn xe) W) (hr : Room (k + 1) (X.A.deeper (envOfC qg sg s.heap.objs.size g cdg))) (hgd : X.A.guards = some [])
    (hbody : ∀ (E : XK) (A : Around) (outer : List PySem.Env) (s : Shared) (H : Hp), Room k (A.deeper (LamX.lamEnv X scope s.heap.objs.size f c')) → A.guards = some [] → PE (LamX.lamCx X A outer s H E scope f c') body (tb E))
    (hN : Ng[i]? = some a) (hv : Vis sg a) (hd : (a == ("__debug__" : Str)) = false := by decide) (hcd : (a == ("__classdict__" : Str)) = false := by decide) :
    PE ((cxOf CXg X.prog X.w X.K X.mg X.base Ng qg sg g cdg X.A X.stack s H Eg).tr pn xe) (.Call (.Name a p1) [] [] p2)
      (fun σZ HZ Q => σZ[i]? = some (some (.ref f)) ∧ HZ c' = some (LamX.CodeO c' (X.env.qual ++ "<lambda>")) ∧ tb (WE W σZ) σ HZ Q) := by
  refine ⟨fun pinsZ sZ σZ HZ Q IZ h => ?_⟩
  obtain ⟨hs, hc, ht'⟩ := h
  refine wpAny_Call_Name_kw (thn ((pe_var (pos := p1) (i := i) hN hv hd hcd).run pinsZ sZ σZ HZ (fun v H1 => v = .ref f ∧ H1 = HZ) IZ ⟨.ref f, hs, rfl, rfl⟩) fun w s1 ⟨v, H1, I1, r1, ev, eH⟩ => ?_)
  subst ev
  rw [eH] at I1
  obtain rfl : w = Value.ref f := r1
  have keeps : ∀ {x : Addr} {o : Obj}, s.heap.get? x = some o → H x = none → x ∉ frs X.stack → s1.heap.get? x = some o := fun {x o} e n r => I1.base.keep x _ e n r (fun z => nomatch (show x ∈ ([] : List Addr) from z))
  have of1 := keeps hf hfn hfr
  have ot1 := keeps ht htn htr
  refine PySem.W.callWith_F0 ⟨_, _, _, _, of1⟩ ?_
  have un : Un (frs X.stack) [] H HZ s.heap s1.heap := I1.base
  obtain ⟨⟨oc, vs, tq, hoc, hdc, hvc⟩, _, _⟩ := I1.hok c' _ hc
  obtain ⟨kk, hk1, hk2⟩ := hbind (X.env.qual ++ "<lambda>") (cloFrom X.env.cells scope.names []) t doc pm (.ref c') ctv
  have rc : codeAny (model X.prog X.w) (X.A.deeper (envOfC qg sg s.heap.objs.size g cdg)) (.call (.ref f) ⟨[], []⟩) (CR (L2.CX X.prog X.w) (envOfC qg sg s.heap.objs.size g cdg :: X.stack) X.prog X.w HZ s1 Q (WE W σZ)) s1 := by
    refine PySem.W.kla_callFunE hr.depth of1 rfl L.co L.gen rfl ⟨c', oc, vs, tq, rfl, hoc, hdc, hvc⟩ ?_
    rw [hk1]
    refine wpAny_bind (wpAny_seqItems ot1 rfl ?_)
    rw [hk2 u]
    refine wpAny_pure (wpAny_newFunctionEnv (binds := [(b, u)]) L.nocell (fun y hy => by rw [List.mem_singleton.mp hy]; exact L.par) (fun h₁ hns hsb => ⟨I1.nolimit.fresh _ hsb, ?_⟩) L.kind)
    show codeAny _ _ (.expr body (LamX.lamEnv X scope s1.heap.objs.size f c')) _ _
    have kp : ∀ b o, s1.heap.get? b = some o → h₁.get? b = some o := fun b o e => hsb.extBut b o (Nat.ne_of_lt (Heap.lt_size e)) (Heap.get?_push_of_some _ e)
    have J : Inv (LamX.lamCx X (X.A.deeper (envOfC qg sg s.heap.objs.size g cdg)) (envOfC qg sg s.heap.objs.size g cdg :: X.stack) s1 HZ (WE W σZ) scope f c') [] σ HZ { s1 with heap := h₁, toks := s1.toks + ([(b, u)] : List (Str × Value)).length } :=
      lamD_start I L I1.env0 hr.hd un hns kp
    refine PySem.W.kla_codeExpr (wpAny_mono ((hbody _ _ _ s1 HZ (hr.deeper _) hgd).run [] _ _ HZ Q J ht') (fun v s' hq => ?_) fun e s' hq => hq)
    obtain ⟨w', H', J', rv, q⟩ := hq
    exact ⟨w', H', J'.os, J'.bare, J'.base, J'.hok, rv, q⟩
  refine wpAny_call (codeAny_mono rc fun r s' hq => ?_)
  cases r with
  | error e => exact passAt tk σZ pinsZ HZ s1 e s' I1 hq
  | ok fl =>
    cases fl with
    | ret z => exact I1.after hq
    | next => exact False.elim hq
    | brk => exact False.elim hq
    | cont => exact False.elim hq
theorem me_actD {CXg : CXT} {Eg : XK} {Ng : List Str} {qg : Str} {sg : Scope} {g f c' t : Addr} {u cdg doc pm ctv : Value} {params : Arguments} {body : Expr} {scope : Scope} {k i : Nat} {a b : Str} {pn : List (Addr × Obj)} {xe : Value → Shared → Prop} {W : WX} {mb : FE} {ρ : Env} {p1 p2 : Pos}
    (I : Inv X pins σ H s) (L : LamP X.N X.env.scope scope b) (hf : s.heap.get? f = some (PySem.W.kdv_obj "<lambda>" (X.env.qual ++ "<lambda>") params (.expr body) scope (cloFrom X.env.cells scope.names []) (.ref t) doc pm c' ctv)) (hfn : H f = none) (hfr : f ∉ frs X.stack)
    (ht : s.heap.get? t = some (PySem.W.kdv_tup [u])) (htn : H t = none) (htr : t ∉ frs X.stack) (hbind : BindD params body scope b)
    (tk : Takes ((cxOf CXg X.prog X.w X.K X.mg X.base Ng qg sg g cdg X.A X.stack s H Eg).tr pn xe) W) (hr : Room (k + 1) (X.A.deeper (envOfC qg sg s.heap.objs.size g cdg))) (hgd : X.A.guards = some [])
    (hbody : ∀ (E : XK) (A : Around) (outer : List PySem.Env) (s : Shared) (H : Hp) (f c' : Addr), Room k (A.deeper (LamX.lamEnv X scope s.heap.objs.size f c')) → A.guards = some [] → ME (LamX.lamCx X A outer s H E scope f c') (fun cls d _ H => E cls d H) body mb)
    (hN : Ng[i]? = some a) (hv : Vis sg a) (hd : (a == ("__debug__" : Str)) = false := by decide) (hcd : (a == ("__classdict__" : Str)) = false := by decide) :
    ME ((cxOf CXg X.prog X.w X.K X.mg X.base Ng qg sg g cdg X.A X.stack s H Eg).tr pn xe) W (.Call (.Name a p1) [] [] p2) (mAct i f (capOf X.md σ ρ c' (X.env.qual ++ "<lambda>")) (mb ρ)) :=
  (pe_actD (tb := fun E => lift X.md (fun cls d _ H => E cls d H) (cps X.md mb)) I L hf hfn hfr ht htn htr hbind tk hr hgd (fun E A outer s H r g => hbody E A outer s H f c' r g) hN hv hd hcd).imp fun σZ HZ Q ⟨R, Fz, B, ρZ, Qd, E, w, sl, ⟨sd, hR, hi, hp⟩, k, x⟩ => by
    obtain ⟨v, h1, h2⟩ := sl.get i _ hi rfl
    cases h2 with
    | clo hc =>
      exact ⟨h1, w.ex _ _ hc.2, R, Fz, B, ρ, Qd, E, w, hc.1, ⟨sd, hR, hp⟩, k, fun R c C dd H' B' vs fs m e w' hd' hf' he => x R c C dd H' B' vs fs m e w' hd' hf' he⟩
end
section
variable {X : Cx} {W : WX}
/-- x(lambda b=0: body) -/
theorem me_lamD {x a q b : Str} {st : Stmt} {c P : Addr} {k j kc : Nat} {i : Int} {N : List Str} {params : Arguments} {body : Expr} {scope : Scope} {mf : Addr → Cap → (Ds → Out D) → FX} {mb : FE} {p lpos pos pc : Pos} (F : DefAt X.K X.mg x st) (S : FnScope N [a] (defScope st))
    (bnd : ∀ (kV doc pm : Value) (an : Option Addr) (cdv ct : Value) (us : List Value), us.length = [a].length → bindArgs (PySem.W.fnOf x x (defArgs st) (defBody st) (defScope st) .none kV doc pm an cdv ct) ⟨us, []⟩ = pure ([a].zip us))
    (hG : GivesD X.prog X.w X.K X.mg X.base (k + 1) x st N 0 a mf) (hq : X.env.qual ++ "<lambda>" = q) (TB : LamX.TabB X.base X.mg c P) (hcode : X.env.code = .ref c) (hr : Room j X.A) (hj : k + 2 ≤ j) (hgd : X.A.guards = some []) (hg : Gl X x) (tk : Takes X W)
    (L : LamP X.N X.env.scope scope b) (hdef : defaultsOf params X.env = ([eval (.Constant (.int i) kc pc) X.env], [])) (hbind : BindD params body scope b)
    (hbody : ∀ (E : XK) (A : Around) (outer : List PySem.Env) (s : Shared) (H : Hp) (f c' : Addr), Room k (A.deeper (LamX.lamEnv X scope s.heap.objs.size f c')) → A.guards = some [] → ME (LamX.lamCx X A outer s H E scope f c') (fun cls d _ H => E cls d H) body mb)
    (hN : N[0]? = some a) (hv : Vis (defScope st) a) (hdb : (x == ("__debug__" : Str)) = false := by decide) (hd : (a == ("__debug__" : Str)) = false := by decide) (hcd : (a == ("__classdict__" : Str)) = false := by decide) :
    ME X W (.Call (.Name x p) [.Lambda params body scope lpos] [] pos) (mLam P q N.length mf mb) := by
  subst hq
  obtain ⟨g, fd, hm, F⟩ := F
  have hr2 : Room (k + 2) X.A := hr.mono hj
  refine ⟨fun pins s σ H Q I h => ?_⟩
  obtain ⟨R, Fz, B, ρ, Qd, E, w, sl, ⟨sd, rfl, hP, hp⟩, kk, xx⟩ := h
  obtain ⟨G1, G2, o⟩ := (w.weak (pickS hP)).opened
  obtain ⟨ps, hG1, hT1, hT2⟩ := o.r1
  refine wpAny_Call_Name_kw (ld_glob I hg hm ?_ hdb)
  refine PySem.W.callWith_K (h₀ := X.base) I.ok.mod.kin F.kp ?_ (by rfl) (by rfl)
  show wpAny _ _ (spliced ((false, eval (.Lambda params body scope lpos) X.env) :: backTo pos (starEach [] X.env))) _ _ s
  refine Calls.spliced_cons (lamD_mk (B := B) I TB hcode (o.e1 _ _ hG1) ⟨hT1, hT2⟩ hdef (L.has I.ok) (fun _ _ z => z) fun f c' t u doc pm' ctv H1 s' I1 gr hf hfn hfr ht htn htr => ?_)
  refine Calls.spliced_nil ⟨I1.kIn, ?_⟩
  obtain ⟨B1, e1, hc1, w1⟩ := gr.wd o hG1 ⟨hT1, hT2⟩
  have w1 : Wd (resOf X.md sd) B1 Fz H1 := by
    have := w1.weak (unpickS (e := .own (.str (X.env.qual ++ "<lambda>"))) hP)
    rwa [put_self hP] at this
  have hd1 : Dps X.md B1 [.ref f] [.clo f (capOf X.md σ ρ c' (X.env.qual ++ "<lambda>"))] := .cons (.clo ⟨sl.mono e1, hc1⟩) .nil
  have rc : codeAny (model X.prog X.w) X.A (.call (.ref g) ⟨[.ref f], []⟩) (CR (L2.CX X.prog X.w) X.stack X.prog X.w H1 s' Q (WE W σ)) s' := by
    refine run_gS (N := N) (ps := [a]) (us := [.ref f]) (vs := [.ref f]) F S hr2 I1.env0 (by have := (F.binds bnd) s' [.ref f] I1.kIn rfl; simpa using this) (.cons rfl .nil) rfl fun cdv _ hr' => ?_
    have hb := hG g cdv X.A X.stack s' H1 (WE W σ) hr' hgd f (capOf X.md σ ρ c' (X.env.qual ++ "<lambda>")) (mb ρ) fun W pn xe p1 p2 tk => me_actD I1 L hf hfn hfr ht htn htr hbind tk hr' hgd hbody hN hv hd hcd
    refine ⟨_, hb, resOf X.md sd, Fz, B1, Fz, startD N.length [.clo f (capOf X.md σ ρ c' (X.env.qual ++ "<lambda>"))], { nx := fun R _ => Qd R .non, rt := Qd, ex := fun R c fs _ => E R c fs }, ⟨w1, .ofStart hd1, Ex.refl _, w1.sys, fun i d e => (startOwn hd1 e).elim, fun i j d e a e1 => (startOwn hd1 e1).elim⟩, ?_, ?_⟩
    · refine ⟨sd, rfl, Out.post_mono (fun fl s2 h2 => ?_) (fun _ _ _ z => z) _ (hp f (capOf X.md σ ρ c' (X.env.qual ++ "<lambda>")))⟩
      cases fl with
      | nx _ => exact h2
      | rt d => exact h2
      | ex c fs _ => exact h2
      | bk _ => exact h2.elim
      | ct _ => exact h2.elim
    · exact ⟨fun R σ' ρ' B' Fz' H' e s' q' => kk R .non H' B' .non (e1.trans e) (s'.wd.less s'.f0 s'.s0) .non q', fun R v d B' H' e w' h' q' => kk R v H' B' d (e1.trans e) w' h' q', fun _ _ _ _ _ _ _ _ q' => q'.elim, fun _ _ _ _ _ _ _ _ q' => q'.elim,
        fun R c C dd H' B' Fz' vs fs σ' ρ' m e s' hd hf q' => xx R c C dd H' B' vs fs m (e1.trans e) (s'.wd.less s'.f0 s'.s0) hd hf q'⟩
  refine wpAny_call (codeAny_mono rc fun r s2 hq => ?_)
  cases r with
  | error e => exact passAt tk σ pins H1 s' e s2 I1 hq
  | ok fl =>
    cases fl with
    | ret z => exact I1.after hq
    | next => exact False.elim hq
    | brk => exact False.elim hq
    | cont => exact False.elim hq
end
end DL

set_option Elab.async false
set_option linter.all false
set_option maxRecDepth 100000
set_option maxHeartbeats 2000000
namespace V
open PySem L2 DL
def m_is_number : FX := (mRet (mAndV (mCallN (fIsiS isiS) (mCons (mVar 0) (mCons (mC (.ty "int")) mNil))) (mNotV (mCallN (fIsiS isiS) (mCons (mVar 0) (mCons (mC (.ty "bool")) mNil))))))
def c_is_number : FF := callF 1 1 m_is_number
def m_is_among : FX := (mRet (mAndV (mCall (c_is_number) (mCons (mVar 0) mNil)) (mChain oLe' oLe' (mVar 1) (mVar 0) (mVar 2))))
def c_is_among : FF := callF 3 3 m_is_among
def m_is_word : FX := (mRet (mAndV (mCallN (fIsiS isiS) (mCons (mVar 0) (mCons (mC (.ty "str")) mNil))) (mAndV (mChain oLe' oLe' (mC (.int 1)) (mCB oLen (mCons (mVar 0) mNil)) (mC (.int 8))) (mCB oAll (mCons (mLc (mItems (mVar 0)) (ogName 1) mYes (mBin oIn' (mVar 1) (mC (.str "abcdefghijklmnopqrstuvwxyz"))) [1]) mNil)))))
def c_is_word : FF := callF 1 2 m_is_word
def m_are_rising : FX := (mRet (mCB oAll (mCons (mLc (mIt oZip (mCons (mVar 0) (mCons (mSl (mVar 0) (mPart (mC (.int 1))) mNoPart) mNil))) (og2 1 2) mYes (mBin oLt' (mVar 1) (mVar 2)) [1, 2]) mNil)))
def c_are_rising : FF := callF 1 3 m_are_rising
def m_need_names : FX := (mThen (mIfS (mOr (mNot (mTest (mCallN (fIsiS isiS) (mCons (mVar 0) (mCons (mC (.ty "tuple")) mNil))))) (mNot (mTest (mChain oLe' oLe' (mC (.int 2)) (mCB oLen (mCons (mVar 0) mNil)) (mC (.int 4)))))) (mRaise "BadNames" "value" (mVar 0)) mNext) (mThen (mIfS (mOr (mNot (mTest (mCB oAll (mCons (mLc (mItems (mVar 0)) (ogName 1) mYes (mCall (c_is_word) (mCons (mVar 1) mNil)) [1]) mNil)))) (mNot (mTest (mCall (c_are_rising) (mCons (mVar 0) mNil))))) (mRaise "BadNames" "value" (mVar 0)) mNext) (mRet (mVar 0))))
def c_need_names : FF := callF 1 2 m_need_names
def m_is_quota : FX := (mThen (mIfS (mOr (mNot (mTest (mCallN (fIsiS isiS) (mCons (mVar 0) (mCons (mC (.ty "tuple")) mNil))))) (mOr (mTest (mBin oNe' (mCB oLen (mCons (mVar 0) mNil)) (mC (.int 2)))) (mNot (mTest (mCall (c_is_among) (mCons (mBin oIx' (mVar 0) (mC (.int 1))) (mCons (mC (.int 2)) (mCons (mC (.int 100)) mNil)))))))) (mRet (mC (.bl false))) mNext) (mRet (mCall (c_is_among) (mCons (mBin oIx' (mVar 0) (mC (.int 0))) (mCons (mC (.int 1)) (mCons (mBin oSubB (mBin oIx' (mVar 0) (mC (.int 1))) (mC (.int 1))) mNil))))))
def c_is_quota : FF := callF 1 1 m_is_quota
def m_is_hand : FX := (mThen (mIfS (mOr (mNot (mTest (mCallN (fIsiS isiS) (mCons (mVar 0) (mCons (mC (.ty "tuple")) mNil))))) (mOr (mTest (mBin oNe' (mCB oLen (mCons (mVar 0) mNil)) (mC (.int 2)))) (mNot (mTest (mCall (c_is_among) (mCons (mBin oIx' (mVar 0) (mC (.int 1))) (mCons (mC (.int 1)) (mCons (mC (.int 100)) mNil)))))))) (mRet (mC (.bl false))) mNext) (mRet (mCall (c_is_among) (mCons (mBin oIx' (mVar 0) (mC (.int 0))) (mCons (mC (.int 0)) (mCons (mBin oIx' (mVar 0) (mC (.int 1))) mNil))))))
def c_is_hand : FF := callF 1 1 m_is_hand
def m_is_order : FX := (mThen (mIfS (mOr (mNot (mTest (mCallN (fIsiS isiS) (mCons (mVar 1) (mCons (mC (.ty "tuple")) mNil))))) (mNot (mTest (mCB oAll (mCons (mLc (mItems (mVar 1)) (ogName 2) mYes (mCallN (fIsiS isiS) (mCons (mVar 2) (mCons (mC (.ty "str")) mNil))) [2]) mNil))))) (mRet (mC (.bl false))) mNext) (mRet (mBin oEq' (mCB oTuple (mCons (mCB oSortedT (mCons (mVar 1) mNil)) mNil)) (mVar 0))))
def c_is_order : FF := callF 2 3 m_is_order
def b_Rule___init__1 : FX := (mIfS (mNot (mTest (mVar 9))) (mRaise "BadRule" "place" (mVar 8)) mNext)
def m_Rule___init__ : FX := (mThen (mDrop (mCall (c_need_names) (mCons (mVar 1) mNil))) (mThen (mSet 7 (mLst (mCons (mTup (mCons (mC (.str "seats")) (mCons (mCall (c_is_among) (mCons (mVar 2) (mCons (mC (.int 1)) (mCons (mBin oSubB (mCB oLen (mCons (mVar 1) mNil)) (mC (.int 1))) mNil)))) mNil))) (mCons (mTup (mCons (mC (.str "quota")) (mCons (mCall (c_is_quota) (mCons (mVar 3) mNil)) mNil))) mNil)))) (mThen (mSet 7 (mLst (mStar (mVar 7) (mCons (mTup (mCons (mC (.str "over")) (mCons (mCallN (fIsiS isiS) (mCons (mVar 4) (mCons (mC (.ty "bool")) mNil))) mNil))) (mCons (mTup (mCons (mC (.str "hand")) (mCons (mCall (c_is_hand) (mCons (mVar 5) mNil)) mNil))) (mCons (mTup (mCons (mC (.str "order")) (mCons (mCall (c_is_order) (mCons (mVar 1) (mCons (mVar 6) mNil))) mNil))) mNil)))))) (mThen (mFor (mItems (mVar 7)) (og2 8 9) (b_Rule___init__1)) (mThen (mSetF attO "names" (mVar 0) (mVar 1)) (mThen (mSetF attO "seats" (mVar 0) (mVar 2)) (mThen (mSetF attO "quota" (mVar 0) (mVar 3)) (mThen (mSetF attO "over" (mVar 0) (mVar 4)) (mThen (mSetF attO "hand" (mVar 0) (mVar 5)) (mSetF attO "order" (mVar 0) (mVar 6)))))))))))
def c_Rule___init__ : FF := callF 7 10 m_Rule___init__
def m_Rule_fields : FX := (mRet (mTup (mCons (mFld attO "names" (mVar 0)) (mCons (mFld attO "seats" (mVar 0)) (mCons (mFld attO "quota" (mVar 0)) (mCons (mFld attO "over" (mVar 0)) (mCons (mFld attO "hand" (mVar 0)) (mCons (mFld attO "order" (mVar 0)) mNil))))))))
def c_Rule_fields : FF := callF 1 1 m_Rule_fields
def m_Rule___eq__ : FX := (mRet (mAndV (mCallN (fIsiS isiS) (mCons (mVar 1) (mCons (mC (.cls "Rule")) mNil))) (mBin oEq' (mMeth "Rule" "fields" c_Rule_fields (mVar 0) mNil) (mMeth "Rule" "fields" c_Rule_fields (mVar 1) mNil))))
def c_Rule___eq__ : FF := callF 2 2 m_Rule___eq__
def m_Rule_with_seats : FX := (mRet (mCall (mkP "Rule" c_Rule___init__) (mCons (mFld attO "names" (mVar 0)) (mCons (mVar 1) (mCons (mFld attO "quota" (mVar 0)) (mCons (mFld attO "over" (mVar 0)) (mCons (mFld attO "hand" (mVar 0)) (mCons (mFld attO "order" (mVar 0)) mNil))))))))
def c_Rule_with_seats : FF := callF 2 2 m_Rule_with_seats
def m_Rule_with_quota : FX := (mRet (mCall (mkP "Rule" c_Rule___init__) (mCons (mFld attO "names" (mVar 0)) (mCons (mFld attO "seats" (mVar 0)) (mCons (mVar 1) (mCons (mVar 2) (mCons (mFld attO "hand" (mVar 0)) (mCons (mFld attO "order" (mVar 0)) mNil))))))))
def c_Rule_with_quota : FF := callF 3 3 m_Rule_with_quota
def m_Rule_with_hand : FX := (mRet (mCall (mkP "Rule" c_Rule___init__) (mCons (mFld attO "names" (mVar 0)) (mCons (mFld attO "seats" (mVar 0)) (mCons (mFld attO "quota" (mVar 0)) (mCons (mFld attO "over" (mVar 0)) (mCons (mVar 1) (mCons (mFld attO "order" (mVar 0)) mNil))))))))
def c_Rule_with_hand : FF := callF 2 2 m_Rule_with_hand
def m_Rule_with_order : FX := (mRet (mCall (mkP "Rule" c_Rule___init__) (mCons (mFld attO "names" (mVar 0)) (mCons (mFld attO "seats" (mVar 0)) (mCons (mFld attO "quota" (mVar 0)) (mCons (mFld attO "over" (mVar 0)) (mCons (mFld attO "hand" (mVar 0)) (mCons (mVar 1) mNil))))))))
def c_Rule_with_order : FF := callF 2 2 m_Rule_with_order
def b_units1 : FX := (mSet 1 (mBin oMul' (mVar 1) (mBin oIx' (mFld attO "hand" (mVar 0)) (mC (.int 1)))))
def m_units : FX := (mThen (mSet 1 (mC (.int 1))) (mThen (mFor (mIt oRange1 (mCons (mFld attO "seats" (mVar 0)) mNil)) (ogName 2) (b_units1)) (mRet (mVar 1))))
def c_units : FF := callF 1 3 m_units
def b_law_names1 : FX := (mSet 3 (mBin oAdd' (mVar 3) (mBin oIx' (mVar 2) (mCall (c_law_next) (mCons (mVar 0) (mCons (mC (.int 26)) mNil))))))
def m_law_names : FX := (mThen (mAsg (mTup (mCons (mC (.str "abcdefghijklmnopqrstuvwxyz")) (mCons (mC (.str "")) mNil))) (og2 2 3)) (mThen (mFor (mIt oRange1 (mCons (mCall (c_law_next) (mCons (mVar 0) (mCons (mC (.int 8)) mNil))) mNil)) (ogName 4) (b_law_names1)) (mThen (mAsg (mTup (mCons (mCall (c_law_next) (mCons (mVar 0) (mCons (mBin oAdd' (mCB oLen (mCons (mVar 3) mNil)) (mC (.int 1))) mNil))) (mCons (mCall (c_law_next) (mCons (mVar 0) (mCons (mC (.int 26)) mNil))) (mCons (mBin oIx' (mLst (mCons (mC (.int 1)) (mCons (mC (.int 3)) (mCons (mC (.int 5)) (mCons (mC (.int 7)) (mCons (mC (.int 9)) (mCons (mC (.int 11)) mNil))))))) (mCall (c_law_next) (mCons (mVar 0) (mCons (mC (.int 6)) mNil)))) mNil)))) (og3 5 6 7)) (mThen (mSet 8 (mSl (mBin oAdd' (mVar 3) (mBin oMul' (mBin oIx' (mVar 2) (mVar 6)) (mC (.int 8)))) mNoPart (mPart (mC (.int 8))))) (mThen (mIfS (mAnd (mTest (mBin oGt' (mVar 7) (mC (.int 5)))) (mTest (mBin oLt' (mVar 1) (mC (.int 9))))) (mRet (mLc (mIt oRange1 (mCons (mVar 1) mNil)) (ogName 4) mYes (mIf (mTest (mBin oGt' (mVar 7) (mC (.int 7)))) (mSl (mVar 8) (mPart (mVar 4)) mNoPart) (mSl (mVar 8) mNoPart (mPart (mBin oSubB (mBin oAdd' (mVar 4) (mC (.int 9))) (mVar 1))))) [4])) mNext) (mRet (mLc (mIt oRange1 (mCons (mVar 1) mNil)) (ogName 4) mYes (mBin oAdd' (mBin oAdd' (mSl (mVar 3) mNoPart (mPart (mVar 5))) (mBin oIx' (mVar 2) (mBin oMod' (mCB oInt1 (mCons (mBin oAdd' (mVar 6) (mBin oMul' (mVar 7) (mVar 4))) mNil)) (mC (.int 26))))) (mSl (mVar 3) (mPart (mVar 5)) mNoPart)) [4])))))))
def c_law_names : FF := callF 2 9 m_law_names
def m_law_many : FX := (mRet (mCB oTuple (mCons (mCB oSortedT (mCons (mCall (c_law_names) (mCons (mVar 0) (mCons (mBin oAdd' (mC (.int 2)) (mCall (c_law_next) (mCons (mVar 0) (mCons (mBin oSubB (mVar 1) (mC (.int 1))) mNil)))) mNil))) mNil)) mNil)))
def c_law_many : FF := callF 2 2 m_law_many
def b_law_order1 : FX := (mThen (mSet 4 (mCall (c_law_next) (mCons (mVar 0) (mCons (mCB oLen (mCons (mVar 2) mNil)) mNil)))) (mPar 3 2 (mCons (mBin oAdd' (mVar 3) (mTup (mCons (mBin oIx' (mVar 2) (mVar 4)) mNil))) (mCons (mBin oAdd' (mSl (mVar 2) mNoPart (mPart (mVar 4))) (mSl (mVar 2) (mPart (mBin oAdd' (mVar 4) (mC (.int 1)))) mNoPart)) mNil))))
def m_law_order : FX := (mThen (mPar 2 3 (mCons (mCB oList (mCons (mVar 1) mNil)) (mCons (mTup mNil) mNil))) (mThen (mWhile (mTest (mBin oNe' (mVar 2) (mLst mNil))) (b_law_order1)) (mRet (mVar 3))))
def c_law_order : FF := callF 2 5 m_law_order
def m_law_rule : FX := (mThen (mSet 2 (mBin oAdd' (mC (.int 1)) (mCall (c_law_next) (mCons (mVar 0) (mCons (mBin oSubB (mCB oLen (mCons (mVar 1) mNil)) (mC (.int 1))) mNil))))) (mThen (mSet 3 (mBin oIx' (mLst (mCons (mTup (mCons (mC (.int 1)) (mCons (mC (.int 2)) mNil))) (mCons (mTup (mCons (mC (.int 1)) (mCons (mC (.int 3)) mNil))) (mCons (mTup (mCons (mC (.int 1)) (mCons (mBin oAdd' (mVar 2) (mC (.int 1))) mNil))) (mCons (mTup (mCons (mC (.int 2)) (mCons (mC (.int 5)) mNil))) (mCons (mTup (mCons (mC (.int 1)) (mCons (mC (.int 100)) mNil))) (mCons (mTup (mCons (mC (.int 3)) (mCons (mC (.int 4)) mNil))) (mCons (mTup (mCons (mC (.int 99)) (mCons (mC (.int 100)) mNil))) mNil)))))))) (mCall (c_law_next) (mCons (mVar 0) (mCons (mC (.int 7)) mNil))))) (mThen (mSet 4 (mBin oIx' (mLst (mCons (mTup (mCons (mC (.int 0)) (mCons (mC (.int 1)) mNil))) (mCons (mTup (mCons (mC (.int 1)) (mCons (mC (.int 1)) mNil))) (mCons (mTup (mCons (mC (.int 1)) (mCons (mC (.int 2)) mNil))) (mCons (mTup (mCons (mC (.int 1)) (mCons (mC (.int 3)) mNil))) (mCons (mTup (mCons (mC (.int 2)) (mCons (mC (.int 3)) mNil))) (mCons (mTup (mCons (mC (.int 0)) (mCons (mC (.int 7)) mNil))) (mCons (mTup (mCons (mC (.int 99)) (mCons (mC (.int 100)) mNil))) mNil)))))))) (mCall (c_law_next) (mCons (mVar 0) (mCons (mC (.int 7)) mNil))))) (mRet (mTup (mCons (mVar 1) (mCons (mVar 2) (mCons (mVar 3) (mCons (mBin oEq' (mCall (c_law_next) (mCons (mVar 0) (mCons (mC (.int 2)) mNil))) (mC (.int 0))) (mCons (mVar 4) (mCons (mCall (c_law_order) (mCons (mVar 0) (mCons (mVar 1) mNil))) mNil)))))))))))
def c_law_rule : FF := callF 2 5 m_law_rule
def b_law_units1 : FX := (mSet 1 (mBin oMul' (mVar 1) (mBin oIx' (mBin oIx' (mVar 0) (mC (.int 4))) (mC (.int 1)))))
def m_law_units : FX := (mThen (mSet 1 (mC (.int 1))) (mThen (mFor (mIt oRange1 (mCons (mBin oIx' (mVar 0) (mC (.int 1))) mNil)) (ogName 2) (b_law_units1)) (mRet (mVar 1))))
def c_law_units : FF := callF 1 3 m_law_units
def m_law_is_whole : FX := (mRet (mAndV (mCallN (fIsiS isiS) (mCons (mVar 0) (mCons (mC (.ty "int")) mNil))) (mAndV (mNotV (mCallN (fIsiS isiS) (mCons (mVar 0) (mCons (mC (.ty "bool")) mNil)))) (mChain oLe' oLe' (mVar 1) (mVar 0) (mVar 2)))))
def c_law_is_whole : FF := callF 3 3 m_law_is_whole
def b_law_wrong1 : FX := (mIfS (mTest (mBin oEq' (mVar 7) (mC (.str "over")))) (mIfS (mNot (mTest (mCallN (fIsiS isiS) (mCons (mVar 4) (mCons (mC (.ty "bool")) mNil))))) (mRet (mVar 7)) mNext) (mIfS (mOr (mNot (mTest (mCallN (fIsiS isiS) (mCons (mVar 8) (mCons (mC (.ty "tuple")) mNil))))) (mOr (mTest (mBin oNe' (mCB oLen (mCons (mVar 8) mNil)) (mC (.int 2)))) (mNot (mTest (mCall (c_law_is_whole) (mCons (mBin oIx' (mVar 8) (mC (.int 1))) (mCons (mVar 9) (mCons (mC (.int 100)) mNil)))))))) (mRet (mVar 7)) (mIfS (mNot (mTest (mCall (c_law_is_whole) (mCons (mBin oIx' (mVar 8) (mC (.int 0))) (mCons (mBin oSubB (mVar 9) (mC (.int 1))) (mCons (mBin oSubB (mBin oIx' (mVar 8) (mC (.int 1))) (mCB oInt1 (mCons (mBin oEq' (mVar 7) (mC (.str "quota"))) mNil))) mNil)))))) (mRet (mVar 7)) mNext)))
def m_law_wrong : FX := (mThen (mAsg (mVar 0) (ogTup (ogCons (ogName 1) (ogCons (ogName 2) (ogCons (ogName 3) (ogCons (ogName 4) (ogCons (ogName 5) (ogCons (ogName 6) ogNil)))))))) (mThen (mIfS (mNot (mTest (mCall (c_law_is_whole) (mCons (mVar 2) (mCons (mC (.int 1)) (mCons (mBin oSubB (mCB oLen (mCons (mVar 1) mNil)) (mC (.int 1))) mNil)))))) (mRet (mC (.str "seats"))) mNext) (mThen (mFor (mItems (mTup (mCons (mTup (mCons (mC (.str "quota")) (mCons (mVar 3) (mCons (mC (.int 2)) mNil)))) (mCons (mTup (mCons (mC (.str "over")) (mCons (mVar 4) (mCons (mC (.int 0)) mNil)))) (mCons (mTup (mCons (mC (.str "hand")) (mCons (mVar 5) (mCons (mC (.int 1)) mNil)))) mNil))))) (og3 7 8 9) (b_law_wrong1)) (mThen (mIfS (mOr (mNot (mTest (mCallN (fIsiS isiS) (mCons (mVar 6) (mCons (mC (.ty "tuple")) mNil))))) (mOr (mTest (mBin oNe' (mCB oLen (mCons (mVar 6) mNil)) (mCB oLen (mCons (mVar 1) mNil)))) (mTest (mBin oNe' (mLc (mItems (mVar 1)) (ogName 10) (mTest (mBin oNin' (mVar 10) (mVar 6))) (mVar 10) [10]) (mLst mNil))))) (mRet (mC (.str "order"))) mNext) (mRet (mC .non))))))
def c_law_wrong : FF := callF 1 11 m_law_wrong
def b_law_told1 (cf : Addr) (cc : Cap) (th : Ds → Out D) : FX := (mSet 1 (mAct 0 cf cc th))
def m_law_told (cf : Addr) (cc : Cap) (th : Ds → Out D) : FX := (mThen (mTry exS (b_law_told1 cf cc th) [("BadRule", some 2, fun a dd c => (mRet (mTup (mCons (mC (.str "rule")) (mCons (mXf attX 2 a dd c "place") mNil))))), ("BadNames", some 2, fun a dd c => (mRet (mTup (mCons (mC (.str "names")) (mCons (mCB oRepr (mCons (mXf attX 2 a dd c "value") mNil)) mNil)))))]) (mRet (mTup (mCons (mFld attO "names" (mVar 1)) (mCons (mFld attO "seats" (mVar 1)) (mCons (mFld attO "quota" (mVar 1)) (mCons (mFld attO "over" (mVar 1)) (mCons (mFld attO "hand" (mVar 1)) (mCons (mFld attO "order" (mVar 1)) mNil)))))))))
def m_law_odd : FX := (mThen (mSet 1 (mLst (mCons (mC .non) (mCons (mC (.int 0)) (mCons (mC (.int 1)) (mCons (mC (.int 2)) (mCons (mC (.int 3)) (mCons (mUn oNeg (mC (.int 1))) (mCons (mC (.int 101)) (mCons (mUn oNeg (mC (.int 10))) (mCons (mC (.bl true)) (mCons (mC (.bl false)) (mCons (mC (.str "")) (mCons (mC (.str "a")) (mCons (mC (.str "abcdefghi")) (mCons (mC (.str "A")) (mCons (mC (.str "in")) (mCons (mC (.str "out")) (mCons (mTup mNil) (mCons (mTup (mCons (mTup mNil) mNil)) (mCons (mTup (mCons (mC (.str "a")) (mCons (mC (.int 0)) mNil))) mNil))))))))))))))))))))) (mThen (mSet 1 (mBin oAdd' (mVar 1) (mLst (mCons (mLst mNil) (mCons (mC (.dct [])) (mCons (mBin oPow' (mC (.int 10)) (mC (.int 30))) (mCons (mTup (mCons (mC (.str "halves")) mNil)) (mCons (mTup (mCons (mC (.str "in")) (mCons (mC (.str "a")) mNil))) (mCons (mC (.str "a1")) (mCons (mTup (mCons (mC .non) mNil)) (mCons (mTup (mCons (mC (.int 0)) mNil)) (mCons (mTup (mCons (mC (.str "a")) mNil)) (mCons (mTup (mCons (mC (.str "b")) (mCons (mC (.str "a")) mNil))) mNil))))))))))))) (mRet (mBin oIx' (mVar 1) (mCall (c_law_next) (mCons (mVar 0) (mCons (mC (.int 29)) mNil)))))))
def c_law_odd : FF := callF 1 2 m_law_odd
def m_law_bent (self : FF) : FX := (mThen (mIfS (mAnd (mTest (mCallN (fIsiS isiS) (mCons (mVar 1) (mCons (mC (.ty "str")) mNil)))) (mTest (mBin oEq' (mCall (c_law_next) (mCons (mVar 0) (mCons (mC (.int 2)) mNil))) (mC (.int 0))))) (mRet (mBin oIx' (mLst (mCons (mBin oAdd' (mVar 1) (mC (.str "b"))) (mCons (mSl (mVar 1) (mPart (mC (.int 1))) mNoPart) (mCons (mBin oAdd' (mVar 1) (mC (.str "A"))) (mCons (mBin oAdd' (mVar 1) (mC (.str " "))) (mCons (mBin oMul' (mVar 1) (mC (.int 2))) (mCons (mBin oAdd' (mVar 1) (mC (.str "1"))) mNil))))))) (mCall (c_law_next) (mCons (mVar 0) (mCons (mC (.int 6)) mNil))))) mNext) (mThen (mIfS (mAnd (mTest (mCallN (fIsiS isiS) (mCons (mVar 1) (mCons (mC (.ty "int")) mNil)))) (mAnd (mNot (mTest (mCallN (fIsiS isiS) (mCons (mVar 1) (mCons (mC (.ty "bool")) mNil))))) (mTest (mBin oEq' (mCall (c_law_next) (mCons (mVar 0) (mCons (mC (.int 2)) mNil))) (mC (.int 0)))))) (mRet (mBin oAdd' (mVar 1) (mBin oIx' (mLst (mCons (mC (.int 1)) (mCons (mUn oNeg (mC (.int 1))) (mCons (mC (.int 2)) (mCons (mUn oNeg (mC (.int 2))) (mCons (mC (.int 10)) (mCons (mUn oNeg (mC (.int 10))) mNil))))))) (mCall (c_law_next) (mCons (mVar 0) (mCons (mC (.int 6)) mNil)))))) mNext) (mThen (mIfS (mOr (mNot (mTest (mCallN (fIsiS isiS) (mCons (mVar 1) (mCons (mC (.ty "tuple")) mNil))))) (mOr (mTest (mBin oEq' (mVar 1) (mTup mNil))) (mTest (mBin oEq' (mCall (c_law_next) (mCons (mVar 0) (mCons (mC (.int 6)) mNil))) (mC (.int 0)))))) (mRet (mCall (c_law_odd) (mCons (mVar 0) mNil))) mNext) (mThen (mPar 2 3 (mCons (mCall (c_law_next) (mCons (mVar 0) (mCons (mCB oLen (mCons (mVar 1) mNil)) mNil))) (mCons (mCall (c_law_next) (mCons (mVar 0) (mCons (mC (.int 11)) mNil))) mNil))) (mThen (mIfS (mTest (mBin oEq' (mVar 3) (mC (.int 0)))) (mRet (mBin oAdd' (mSl (mVar 1) mNoPart (mPart (mVar 2))) (mSl (mVar 1) (mPart (mBin oAdd' (mVar 2) (mC (.int 1)))) mNoPart))) mNext) (mThen (mIfS (mTest (mBin oEq' (mVar 3) (mC (.int 1)))) (mRet (mBin oAdd' (mVar 1) (mSl (mVar 1) (mPart (mVar 2)) (mPart (mBin oAdd' (mVar 2) (mC (.int 1))))))) mNext) (mThen (mIfS (mTest (mBin oEq' (mVar 3) (mC (.int 2)))) (mRet (mCB oList (mCons (mVar 1) mNil))) mNext) (mThen (mIfS (mTest (mBin oEq' (mVar 3) (mC (.int 3)))) (mRet (mBin oAdd' (mBin oAdd' (mSl (mVar 1) mNoPart (mPart (mVar 2))) (mTup (mCons (mCall (c_law_odd) (mCons (mVar 0) mNil)) mNil))) (mSl (mVar 1) (mPart (mVar 2)) mNoPart))) mNext) (mThen (mIfS (mTest (mBin oEq' (mVar 3) (mC (.int 4)))) (mRet (mUn oRev (mVar 1))) mNext) (mRet (mBin oAdd' (mBin oAdd' (mSl (mVar 1) mNoPart (mPart (mVar 2))) (mTup (mCons (mCall self (mCons (mVar 0) (mCons (mBin oIx' (mVar 1) (mVar 2)) mNil))) mNil))) (mSl (mVar 1) (mPart (mBin oAdd' (mVar 2) (mC (.int 1)))) mNoPart))))))))))))
def c_law_bent : Nat → FF
  | 0 => fun _ _ => .err
  | k + 1 => callF 2 4 (m_law_bent (c_law_bent k))
def m_law_near : FX := (mThen (mSet 3 (mBin oIx' (mLst (mCons (mCall (c_law_odd) (mCons (mVar 0) mNil)) (mCons (mCall ((c_law_bent 6)) (mCons (mVar 0) (mCons (mBin oIx' (mVar 1) (mVar 2)) mNil))) (mCons (mBin oIx' (mLst (mCons (mC (.int 1)) (mCons (mTup (mCons (mC (.int 2)) (mCons (mC (.int 2)) mNil))) (mCons (mC (.int 0)) (mCons (mTup (mCons (mC (.int 1)) (mCons (mC (.int 0)) mNil))) (mCons (mBin oMul' (mSl (mBin oIx' (mVar 1) (mC (.int 0))) mNoPart (mPart (mC (.int 1)))) (mC (.int 2))) mNil)))))) (mBin oSubB (mVar 2) (mC (.int 1)))) mNil)))) (mCall (c_law_next) (mCons (mVar 0) (mCons (mC (.int 3)) mNil))))) (mRet (mBin oAdd' (mBin oAdd' (mSl (mVar 1) mNoPart (mPart (mVar 2))) (mTup (mCons (mVar 3) mNil))) (mSl (mVar 1) (mPart (mBin oAdd' (mVar 2) (mC (.int 1)))) mNoPart))))
def c_law_near : FF := callF 3 4 m_law_near
def b_law_equals_right1 : FX := (mThen (mSet 4 (mBin oAdd' (mBin oAdd' (mSl (mVar 0) mNoPart (mPart (mVar 3))) (mSl (mVar 1) (mPart (mVar 3)) (mPart (mBin oAdd' (mVar 3) (mC (.int 1)))))) (mSl (mVar 0) (mPart (mBin oAdd' (mVar 3) (mC (.int 1)))) mNoPart))) (mIfS (mTest (mBin oNe' (mEqO "Rule" c_Rule___eq__ (mVar 2) (mCall (mkP "Rule" c_Rule___init__) (mCons (mBin oIx' (mVar 4) (mC (.int 0))) (mCons (mBin oIx' (mVar 4) (mC (.int 1))) (mCons (mBin oIx' (mVar 4) (mC (.int 2))) (mCons (mBin oIx' (mVar 4) (mC (.int 3))) (mCons (mBin oIx' (mVar 4) (mC (.int 4))) (mCons (mBin oIx' (mVar 4) (mC (.int 5))) mNil)))))))) (mBin oEq' (mVar 4) (mVar 0)))) (mRet (mC (.bl false))) mNext))
def m_law_equals_right : FX := (mThen (mFor (mIt oRange2 (mCons (mC (.int 1)) (mCons (mC (.int 6)) mNil))) (ogName 3) (b_law_equals_right1)) (mRet (mC (.bl true))))
def c_law_equals_right : FF := callF 3 5 m_law_equals_right
def m_law_with_right (tb : Str → Addr) : FX := (mThen (mSet 3 (mCall (c_law_wrong) (mCons (mVar 1) mNil))) (mThen (mSet 4 (mCB oRepr (mCons (mIf (mTest (mBin oIsN (mVar 3) (mC .non))) (mVar 1) (mTup (mCons (mC (.str "rule")) (mCons (mVar 3) mNil)))) mNil))) (mThen (mIfS (mTest (mBin oEq' (mVar 2) (mC (.int 1)))) (mRet (mBin oEq' (mCB oRepr (mCons (mLam (tb "_law_with_right") "_law_with_right.<locals>.<lambda>" 3 m_law_told (mMeth "Rule" "with_seats" c_Rule_with_seats (mVar 0) (mCons (mBin oIx' (mVar 1) (mC (.int 1))) mNil))) mNil)) (mVar 4))) mNext) (mThen (mIfS (mTest (mBin oLt' (mVar 2) (mC (.int 4)))) (mRet (mBin oEq' (mCB oRepr (mCons (mLam (tb "_law_with_right") "_law_with_right.<locals>.<lambda>" 3 m_law_told (mMeth "Rule" "with_quota" c_Rule_with_quota (mVar 0) (mCons (mBin oIx' (mVar 1) (mC (.int 2))) (mCons (mBin oIx' (mVar 1) (mC (.int 3))) mNil)))) mNil)) (mVar 4))) mNext) (mThen (mIfS (mTest (mBin oEq' (mVar 2) (mC (.int 4)))) (mRet (mBin oEq' (mCB oRepr (mCons (mLam (tb "_law_with_right") "_law_with_right.<locals>.<lambda>" 3 m_law_told (mMeth "Rule" "with_hand" c_Rule_with_hand (mVar 0) (mCons (mBin oIx' (mVar 1) (mC (.int 4))) mNil))) mNil)) (mVar 4))) mNext) (mRet (mBin oEq' (mCB oRepr (mCons (mLam (tb "_law_with_right") "_law_with_right.<locals>.<lambda>" 3 m_law_told (mMeth "Rule" "with_order" c_Rule_with_order (mVar 0) (mCons (mBin oIx' (mVar 1) (mC (.int 5))) mNil))) mNil)) (mVar 4))))))))
def c_law_with_right (tb : Str → Addr) : FF := callF 3 5 (m_law_with_right tb)
def b_law1 (tb : Str → Addr) : FX := (mThen (mSet 11 (mCall (c_law_near) (mCons (mVar 1) (mCons (mVar 4) (mCons (mVar 10) mNil))))) (mIfS (mNot (mTest (mCall ((c_law_with_right tb)) (mCons (mVar 6) (mCons (mVar 11) (mCons (mVar 10) mNil)))))) (mRet (mC (.bl false))) mNext))
def b_law2 (tb : Str → Addr) : FX := (mThen (mSet 11 (mCall (c_law_near) (mCons (mVar 1) (mCons (mVar 4) (mCons (mBin oAdd' (mC (.int 1)) (mCall (c_law_next) (mCons (mVar 1) (mCons (mC (.int 5)) mNil)))) mNil))))) (mThen (mSet 11 (mIf (mTest (mBin oEq' (mCall (c_law_next) (mCons (mVar 1) (mCons (mC (.int 3)) mNil))) (mC (.int 0)))) (mCall (c_law_near) (mCons (mVar 1) (mCons (mVar 11) (mCons (mBin oAdd' (mC (.int 1)) (mCall (c_law_next) (mCons (mVar 1) (mCons (mC (.int 5)) mNil)))) mNil)))) (mVar 11))) (mThen (mSet 13 (mCall (c_law_wrong) (mCons (mVar 11) mNil))) (mThen (mSet 9 (mCB oRepr (mCons (mIf (mTest (mBin oIsN (mVar 13) (mC .non))) (mVar 11) (mTup (mCons (mC (.str "rule")) (mCons (mVar 13) mNil)))) mNil))) (mIfS (mTest (mBin oNe' (mCB oRepr (mCons (mLam (tb "law") "law.<locals>.<lambda>" 3 m_law_told (mCall (mkP "Rule" c_Rule___init__) (mCons (mBin oIx' (mVar 11) (mC (.int 0))) (mCons (mBin oIx' (mVar 11) (mC (.int 1))) (mCons (mBin oIx' (mVar 11) (mC (.int 2))) (mCons (mBin oIx' (mVar 11) (mC (.int 3))) (mCons (mBin oIx' (mVar 11) (mC (.int 4))) (mCons (mBin oIx' (mVar 11) (mC (.int 5))) mNil)))))))) mNil)) (mVar 9))) (mRet (mC (.bl false))) mNext)))))
def b_law3 (tb : Str → Addr) : FX := (mThen (mSet 3 (mCall (c_law_many) (mCons (mVar 1) (mCons (mC (.int 4)) mNil)))) (mThen (mAsg (mTup (mCons (mCall (c_law_rule) (mCons (mVar 1) (mCons (mVar 3) mNil))) (mCons (mCall (c_law_rule) (mCons (mVar 1) (mCons (mVar 3) mNil))) mNil))) (og2 4 5)) (mThen (mSet 6 (mCall (mkP "Rule" c_Rule___init__) (mCons (mBin oIx' (mVar 4) (mC (.int 0))) (mCons (mBin oIx' (mVar 4) (mC (.int 1))) (mCons (mBin oIx' (mVar 4) (mC (.int 2))) (mCons (mBin oIx' (mVar 4) (mC (.int 3))) (mCons (mBin oIx' (mVar 4) (mC (.int 4))) (mCons (mBin oIx' (mVar 4) (mC (.int 5))) mNil)))))))) (mThen (mSet 7 (mCall (mkP "Rule" c_Rule___init__) (mCons (mBin oIx' (mVar 5) (mC (.int 0))) (mCons (mBin oIx' (mVar 5) (mC (.int 1))) (mCons (mBin oIx' (mVar 5) (mC (.int 2))) (mCons (mBin oIx' (mVar 5) (mC (.int 3))) (mCons (mBin oIx' (mVar 5) (mC (.int 4))) (mCons (mBin oIx' (mVar 5) (mC (.int 5))) mNil)))))))) (mThen (mIfS (mOr (mTest (mBin oNe' (mLam (tb "law") "law.<locals>.<lambda>" 3 m_law_told (mVar 6)) (mVar 4))) (mOr (mTest (mBin oNe' (mEqO "Rule" c_Rule___eq__ (mVar 6) (mVar 7)) (mBin oEq' (mVar 4) (mVar 5)))) (mTest (mBin oNe' (mCall (c_units) (mCons (mVar 6) mNil)) (mCall (c_law_units) (mCons (mVar 4) mNil)))))) (mRet (mC (.bl false))) mNext) (mThen (mIfS (mNot (mTest (mCall (c_law_equals_right) (mCons (mVar 4) (mCons (mVar 5) (mCons (mVar 6) mNil)))))) (mRet (mC (.bl false))) mNext) (mThen (mSet 8 (mLst (mCons (mLam (tb "law") "law.<locals>.<lambda>" 3 m_law_told (mMeth "Rule" "with_seats" c_Rule_with_seats (mVar 6) (mCons (mBin oIx' (mVar 5) (mC (.int 1))) mNil))) (mCons (mLam (tb "law") "law.<locals>.<lambda>" 3 m_law_told (mMeth "Rule" "with_quota" c_Rule_with_quota (mVar 6) (mCons (mBin oIx' (mVar 5) (mC (.int 2))) (mCons (mBin oIx' (mVar 5) (mC (.int 3))) mNil)))) mNil)))) (mThen (mSet 8 (mBin oAdd' (mVar 8) (mLst (mCons (mLam (tb "law") "law.<locals>.<lambda>" 3 m_law_told (mMeth "Rule" "with_hand" c_Rule_with_hand (mVar 6) (mCons (mBin oIx' (mVar 5) (mC (.int 4))) mNil))) (mCons (mLam (tb "law") "law.<locals>.<lambda>" 3 m_law_told (mMeth "Rule" "with_order" c_Rule_with_order (mVar 6) (mCons (mBin oIx' (mVar 5) (mC (.int 5))) mNil))) mNil))))) (mThen (mSet 9 (mLst (mCons (mBin oAdd' (mBin oAdd' (mSl (mVar 4) mNoPart (mPart (mC (.int 1)))) (mSl (mVar 5) (mPart (mC (.int 1))) (mPart (mC (.int 2))))) (mSl (mVar 4) (mPart (mC (.int 2))) mNoPart)) (mCons (mBin oAdd' (mBin oAdd' (mSl (mVar 4) mNoPart (mPart (mC (.int 2)))) (mSl (mVar 5) (mPart (mC (.int 2))) (mPart (mC (.int 4))))) (mSl (mVar 4) (mPart (mC (.int 4))) mNoPart)) mNil)))) (mThen (mIfS (mTest (mBin oNe' (mVar 8) (mBin oAdd' (mVar 9) (mLst (mCons (mBin oAdd' (mBin oAdd' (mSl (mVar 4) mNoPart (mPart (mC (.int 4)))) (mSl (mVar 5) (mPart (mC (.int 4))) (mPart (mC (.int 5))))) (mSl (mVar 4) (mPart (mC (.int 5))) mNoPart)) (mCons (mBin oAdd' (mSl (mVar 4) mNoPart (mPart (mC (.int 5)))) (mSl (mVar 5) (mPart (mC (.int 5))) mNoPart)) mNil)))))) (mRet (mC (.bl false))) mNext) (mThen (mFor (mIt oRange2 (mCons (mC (.int 1)) (mCons (mC (.int 6)) mNil))) (ogName 10) (b_law1 tb)) (mThen (mFor (mIt oRange1 (mCons (mC (.int 8)) mNil)) (ogName 12) (b_law2 tb)) (mThen (mSet 14 (mBin oIx' (mLst (mCons (mC .non) (mCons (mTup mNil) (mCons (mUn oRev (mVar 3)) (mCons (mCB oList (mCons (mVar 3) mNil)) (mCons (mC (.str "a")) (mCons (mSl (mVar 3) mNoPart (mPart (mC (.int 1)))) mNil))))))) (mCall (c_law_next) (mCons (mVar 1) (mCons (mC (.int 6)) mNil))))) (mIfS (mOr (mTest (mBin oNe' (mLam (tb "law") "law.<locals>.<lambda>" 3 m_law_told (mCall (mkP "Rule" c_Rule___init__) (mCons (mVar 14) (mCons (mC (.int 5)) (mCons (mC (.int 5)) (mCons (mC (.int 5)) (mCons (mC (.int 5)) (mCons (mC (.int 5)) mNil)))))))) (mTup (mCons (mC (.str "names")) (mCons (mCB oRepr (mCons (mVar 14) mNil)) mNil))))) (mTest (mEqO "Rule" c_Rule___eq__ (mVar 6) (mVar 4)))) (mRet (mC (.bl false))) mNext))))))))))))))
def m_law (tb : Str → Addr) : FX := (mThen (mSet 1 (mCall (c_law_begun) (mCons (mVar 0) mNil))) (mThen (mFor (mIt oRange1 (mCons (mBin oAdd' (mC (.int 4)) (mCB oMin2 (mCons (mCB oLen (mCons (mVar 0) mNil)) (mCons (mC (.int 10)) mNil)))) mNil)) (ogName 2) (b_law3 tb)) (mRet (mC (.bl true)))))
def c_law (tb : Str → Addr) : FF := callF 1 15 (m_law tb)
end V

set_option Elab.async false
set_option linter.all false
set_option maxRecDepth 100000
set_option maxHeartbeats 2000000
namespace Kk04
open PySem L2 DL V
def top (i : Nat) : Stmt := PySem.Challenge.pw_handedvotes_k04_whole_rules_made.main.body.getD i (.Pass ⟨0, 0, 0, 0⟩)
def met (i j : Nat) : Stmt := match top i with
  | .ClassDef _ _ _ body _ _ _ _ _ _ _ => body.getD j (.Pass ⟨0, 0, 0, 0⟩)
  | _ => .Pass ⟨0, 0, 0, 0⟩
abbrev s_is_number : Stmt := top 10
theorem sc_is_number : FnScope ["thing"] ["thing"] (defScope s_is_number) := ⟨rfl, rfl, rfl, by decide +kernel, rfl, by decide +kernel, by decide +kernel⟩
abbrev s_is_among : Stmt := top 11
theorem sc_is_among : FnScope ["thing", "least", "most"] ["thing", "least", "most"] (defScope s_is_among) := ⟨rfl, rfl, rfl, by decide +kernel, rfl, by decide +kernel, by decide +kernel⟩
abbrev s_is_word : Stmt := top 9
theorem sc_is_word : FnScope ["thing", "letter"] ["thing"] (defScope s_is_word) := ⟨rfl, rfl, rfl, by decide +kernel, rfl, by decide +kernel, by decide +kernel⟩
abbrev s_are_rising : Stmt := top 12
theorem sc_are_rising : FnScope ["items", "one", "other"] ["items"] (defScope s_are_rising) := ⟨rfl, rfl, rfl, by decide +kernel, rfl, by decide +kernel, by decide +kernel⟩
abbrev s_need_names : Stmt := top 13
theorem sc_need_names : FnScope ["thing", "one"] ["thing"] (defScope s_need_names) := ⟨rfl, rfl, rfl, by decide +kernel, rfl, by decide +kernel, by decide +kernel⟩
abbrev s_is_quota : Stmt := top 16
theorem sc_is_quota : FnScope ["thing"] ["thing"] (defScope s_is_quota) := ⟨rfl, rfl, rfl, by decide +kernel, rfl, by decide +kernel, by decide +kernel⟩
abbrev s_is_hand : Stmt := top 17
theorem sc_is_hand : FnScope ["thing"] ["thing"] (defScope s_is_hand) := ⟨rfl, rfl, rfl, by decide +kernel, rfl, by decide +kernel, by decide +kernel⟩
abbrev s_is_order : Stmt := top 18
theorem sc_is_order : FnScope ["names", "thing", "one"] ["names", "thing"] (defScope s_is_order) := ⟨rfl, rfl, rfl, by decide +kernel, rfl, by decide +kernel, by decide +kernel⟩
abbrev s_Rule___init__ : Stmt := met 19 0
theorem sc_Rule___init__ : FnScope ["self", "names", "seats", "quota", "over", "hand", "order", "looks", "word", "is_right"] ["self", "names", "seats", "quota", "over", "hand", "order"] (defScope s_Rule___init__) := ⟨rfl, rfl, rfl, by decide +kernel, rfl, by decide +kernel, by decide +kernel⟩
abbrev s_Rule_fields : Stmt := met 19 1
theorem sc_Rule_fields : FnScope ["self"] ["self"] (defScope s_Rule_fields) := ⟨rfl, rfl, rfl, by decide +kernel, rfl, by decide +kernel, by decide +kernel⟩
abbrev s_Rule___eq__ : Stmt := met 19 2
theorem sc_Rule___eq__ : FnScope ["self", "other"] ["self", "other"] (defScope s_Rule___eq__) := ⟨rfl, rfl, rfl, by decide +kernel, rfl, by decide +kernel, by decide +kernel⟩
abbrev s_Rule_with_seats : Stmt := met 19 3
theorem sc_Rule_with_seats : FnScope ["self", "seats"] ["self", "seats"] (defScope s_Rule_with_seats) := ⟨rfl, rfl, rfl, by decide +kernel, rfl, by decide +kernel, by decide +kernel⟩
abbrev s_Rule_with_quota : Stmt := met 19 4
theorem sc_Rule_with_quota : FnScope ["self", "quota", "over"] ["self", "quota", "over"] (defScope s_Rule_with_quota) := ⟨rfl, rfl, rfl, by decide +kernel, rfl, by decide +kernel, by decide +kernel⟩
abbrev s_Rule_with_hand : Stmt := met 19 5
theorem sc_Rule_with_hand : FnScope ["self", "hand"] ["self", "hand"] (defScope s_Rule_with_hand) := ⟨rfl, rfl, rfl, by decide +kernel, rfl, by decide +kernel, by decide +kernel⟩
abbrev s_Rule_with_order : Stmt := met 19 6
theorem sc_Rule_with_order : FnScope ["self", "order"] ["self", "order"] (defScope s_Rule_with_order) := ⟨rfl, rfl, rfl, by decide +kernel, rfl, by decide +kernel, by decide +kernel⟩
abbrev s_units : Stmt := top 20
theorem sc_units : FnScope ["rule", "found", "turn"] ["rule"] (defScope s_units) := ⟨rfl, rfl, rfl, by decide +kernel, rfl, by decide +kernel, by decide +kernel⟩
abbrev s_law_begun : Stmt := top 22
theorem sc_law_begun : FnScope ["_law_script", "_law_cell"] ["_law_script"] (defScope s_law_begun) := ⟨rfl, rfl, rfl, by decide +kernel, rfl, by decide +kernel, by decide +kernel⟩
abbrev s_law_next : Stmt := top 23
theorem sc_law_next : FnScope ["_law_m", "_law_many_here", "_law_rest", "_law_at", "_law_bits", "_law_cell", "_law_blend"] ["_law_m", "_law_many_here"] (defScope s_law_next) := ⟨rfl, rfl, rfl, by decide +kernel, rfl, by decide +kernel, by decide +kernel⟩
abbrev s_law_names : Stmt := top 24
theorem sc_law_names : FnScope ["_law_m", "_law_many_here", "_law_letters", "_law_stem", "_law_k", "_law_at", "_law_first_here", "_law_by", "_law_word"] ["_law_m", "_law_many_here"] (defScope s_law_names) := ⟨rfl, rfl, rfl, by decide +kernel, rfl, by decide +kernel, by decide +kernel⟩
abbrev s_law_many : Stmt := top 29
theorem sc_law_many : FnScope ["_law_m", "_law_most"] ["_law_m", "_law_most"] (defScope s_law_many) := ⟨rfl, rfl, rfl, by decide +kernel, rfl, by decide +kernel, by decide +kernel⟩
abbrev s_law_order : Stmt := top 32
theorem sc_law_order : FnScope ["_law_m", "_law_many_here", "_law_left", "_law_found", "_law_at"] ["_law_m", "_law_many_here"] (defScope s_law_order) := ⟨rfl, rfl, rfl, by decide +kernel, rfl, by decide +kernel, by decide +kernel⟩
abbrev s_law_rule : Stmt := top 33
theorem sc_law_rule : FnScope ["_law_m", "_law_many_here", "_law_seats", "_law_quota", "_law_hand"] ["_law_m", "_law_many_here"] (defScope s_law_rule) := ⟨rfl, rfl, rfl, by decide +kernel, rfl, by decide +kernel, by decide +kernel⟩
abbrev s_law_units : Stmt := top 34
theorem sc_law_units : FnScope ["_law_rule_here", "_law_found", "_law_k"] ["_law_rule_here"] (defScope s_law_units) := ⟨rfl, rfl, rfl, by decide +kernel, rfl, by decide +kernel, by decide +kernel⟩
abbrev s_law_is_whole : Stmt := top 25
theorem sc_law_is_whole : FnScope ["_law_thing", "_law_least", "_law_most"] ["_law_thing", "_law_least", "_law_most"] (defScope s_law_is_whole) := ⟨rfl, rfl, rfl, by decide +kernel, rfl, by decide +kernel, by decide +kernel⟩
abbrev s_law_wrong : Stmt := top 39
theorem sc_law_wrong : FnScope ["_law_fields", "_law_many_here", "_law_seats", "_law_quota", "_law_over", "_law_hand", "_law_order_here", "_law_word", "_law_pair", "_law_low", "_law_one"] ["_law_fields"] (defScope s_law_wrong) := ⟨rfl, rfl, rfl, by decide +kernel, rfl, by decide +kernel, by decide +kernel⟩
abbrev s_law_told : Stmt := top 40
theorem sc_law_told : FnScope ["_law_call", "_law_one", "e"] ["_law_call"] (defScope s_law_told) := ⟨rfl, rfl, rfl, by decide +kernel, rfl, by decide +kernel, by decide +kernel⟩
abbrev s_law_odd : Stmt := top 27
theorem sc_law_odd : FnScope ["_law_m", "_law_some"] ["_law_m"] (defScope s_law_odd) := ⟨rfl, rfl, rfl, by decide +kernel, rfl, by decide +kernel, by decide +kernel⟩
abbrev s_law_bent : Stmt := top 28
theorem sc_law_bent : FnScope ["_law_m", "_law_thing", "_law_at", "_law_pick"] ["_law_m", "_law_thing"] (defScope s_law_bent) := ⟨rfl, rfl, rfl, by decide +kernel, rfl, by decide +kernel, by decide +kernel⟩
abbrev s_law_near : Stmt := top 41
theorem sc_law_near : FnScope ["_law_m", "_law_fields", "_law_at", "_law_near_here"] ["_law_m", "_law_fields", "_law_at"] (defScope s_law_near) := ⟨rfl, rfl, rfl, by decide +kernel, rfl, by decide +kernel, by decide +kernel⟩
abbrev s_law_equals_right : Stmt := top 42
theorem sc_law_equals_right : FnScope ["_law_fields", "_law_far", "_law_one", "_law_at", "_law_near_here"] ["_law_fields", "_law_far", "_law_one"] (defScope s_law_equals_right) := ⟨rfl, rfl, rfl, by decide +kernel, rfl, by decide +kernel, by decide +kernel⟩
abbrev s_law_with_right : Stmt := top 43
theorem sc_law_with_right : FnScope ["_law_one", "_law_near_here", "_law_at", "_law_wrong_here", "_law_due"] ["_law_one", "_law_near_here", "_law_at"] (defScope s_law_with_right) := ⟨rfl, rfl, rfl, by decide +kernel, rfl, by decide +kernel, by decide +kernel⟩
abbrev s_law : Stmt := top 44
theorem sc_law : FnScope ["_law_script", "_law_m", "_law_turn", "_law_many_here", "_law_fields", "_law_far", "_law_one", "_law_other", "_law_told_here", "_law_due", "_law_at", "_law_near_here", "_law_k", "_law_wrong_here", "_law_odd_here"] ["_law_script"] (defScope s_law) := ⟨rfl, rfl, rfl, by decide +kernel, rfl, by decide +kernel, by decide +kernel⟩
structure Gs (tb : Str → Addr) (P : Program) (K : PySem.W.Frag) (mg : Str → Option Value) (base : Heap) : Prop where
  g_all : mg "all" = none
  g_bool : mg "bool" = none
  g_int : mg "int" = none
  g_isinstance : mg "isinstance" = none
  g_len : mg "len" = none
  g_list : mg "list" = none
  g_min : mg "min" = none
  g_range : mg "range" = none
  g_repr : mg "repr" = none
  g_sorted : mg "sorted" = none
  g_str : mg "str" = none
  g_super : mg "super" = none
  g_tuple : mg "tuple" = none
  g_zip : mg "zip" = none
  f_is_number : DefAt K mg "is_number" s_is_number
  f_is_among : DefAt K mg "is_among" s_is_among
  f_is_word : DefAt K mg "is_word" s_is_word
  f_are_rising : DefAt K mg "are_rising" s_are_rising
  f_need_names : DefAt K mg "need_names" s_need_names
  f_is_quota : DefAt K mg "is_quota" s_is_quota
  f_is_hand : DefAt K mg "is_hand" s_is_hand
  f_is_order : DefAt K mg "is_order" s_is_order
  f_Rule___init__ : MkAt K mg "Rule" "Rule.__init__" s_Rule___init__
  f_Rule_fields : MetAt K mg "Rule" "fields" "Rule.fields" s_Rule_fields
  f_Rule___eq__ : MetAt K mg "Rule" "__eq__" "Rule.__eq__" s_Rule___eq__
  f_Rule_with_seats : MetAt K mg "Rule" "with_seats" "Rule.with_seats" s_Rule_with_seats
  f_Rule_with_quota : MetAt K mg "Rule" "with_quota" "Rule.with_quota" s_Rule_with_quota
  f_Rule_with_hand : MetAt K mg "Rule" "with_hand" "Rule.with_hand" s_Rule_with_hand
  f_Rule_with_order : MetAt K mg "Rule" "with_order" "Rule.with_order" s_Rule_with_order
  f_units : DefAt K mg "units" s_units
  f_law_begun : DefAt K mg "_law_begun" s_law_begun
  f_law_next : DefAt K mg "_law_next" s_law_next
  f_law_names : DefAt K mg "_law_names" s_law_names
  f_law_many : DefAt K mg "_law_many" s_law_many
  f_law_order : DefAt K mg "_law_order" s_law_order
  f_law_rule : DefAt K mg "_law_rule" s_law_rule
  f_law_units : DefAt K mg "_law_units" s_law_units
  f_law_is_whole : DefAt K mg "_law_is_whole" s_law_is_whole
  f_law_wrong : DefAt K mg "_law_wrong" s_law_wrong
  f_law_told : DefAt K mg "_law_told" s_law_told
  f_law_odd : DefAt K mg "_law_odd" s_law_odd
  f_law_bent : DefAt K mg "_law_bent" s_law_bent
  f_law_near : DefAt K mg "_law_near" s_law_near
  f_law_equals_right : DefAt K mg "_law_equals_right" s_law_equals_right
  f_law_with_right : DefAt K mg "_law_with_right" s_law_with_right
  f_law : DefAt K mg "law" s_law
  k_VoteError : ∃ C, mg "VoteError" = some (.ref C)
  k_BadNames : ∃ C, mg "BadNames" = some (.ref C)
  k_BadRule : ∃ C, mg "BadRule" = some (.ref C)
  k_Rule : ∃ C, mg "Rule" = some (.ref C)
  x_BadNames : XcD P K mg "BadNames" "value"
  b_BadNames : ∀ C, mg "BadNames" = some (.ref C) → PySem.W.subIn K (.ref C) (.type "BaseException") = some true
  x_BadRule : XcD P K mg "BadRule" "place"
  b_BadRule : ∀ C, mg "BadRule" = some (.ref C) → PySem.W.subIn K (.ref C) (.type "BaseException") = some true
  t_LEAST_NAMES : ∃ u, mg "LEAST_NAMES" = some (.int 2 u)
  t_MOST_NAMES : ∃ u, mg "MOST_NAMES" = some (.int 4 u)
  t_MOST_LETTERS : ∃ u, mg "MOST_LETTERS" = some (.int 8 u)
  t_LETTERS : ∃ u, mg "LETTERS" = some (.str "abcdefghijklmnopqrstuvwxyz" u)
  t_MOST_PART : ∃ u, mg "MOST_PART" = some (.int 100 u)
  tab_law_with_right : TabAt K mg base "_law_with_right" (tb "_law_with_right")
  tab_law : TabAt K mg base "law" (tb "law")
  nf_Rule : NfK K mg "Rule"
  attO : AttO K mg attO
  attX : AttX K mg attX
  exs : ExK K mg exS
  isi : IsiK K mg isiS
variable {P : Program} {w : World} {K : PySem.W.Frag} {mg : Str → Option Value} {base : Heap} {tb : Str → Addr}
theorem Gs.c_LEAST_NAMES (G : Gs tb P K mg base) : mg "LEAST_NAMES" = some (.int 2 (Classical.choose G.t_LEAST_NAMES)) := Classical.choose_spec G.t_LEAST_NAMES
theorem Gs.c_MOST_NAMES (G : Gs tb P K mg base) : mg "MOST_NAMES" = some (.int 4 (Classical.choose G.t_MOST_NAMES)) := Classical.choose_spec G.t_MOST_NAMES
theorem Gs.c_MOST_LETTERS (G : Gs tb P K mg base) : mg "MOST_LETTERS" = some (.int 8 (Classical.choose G.t_MOST_LETTERS)) := Classical.choose_spec G.t_MOST_LETTERS
theorem Gs.c_LETTERS (G : Gs tb P K mg base) : mg "LETTERS" = some (.str "abcdefghijklmnopqrstuvwxyz" (Classical.choose G.t_LETTERS)) := Classical.choose_spec G.t_LETTERS
theorem Gs.c_MOST_PART (G : Gs tb P K mg base) : mg "MOST_PART" = some (.int 100 (Classical.choose G.t_MOST_PART)) := Classical.choose_spec G.t_MOST_PART
theorem ok_is_number (G : Gs tb P K mg base) : OkG P w K mg base 1 "is_number" ["thing"] (spF ⟨K, mg, w⟩ c_is_number) :=
  okF (k := 0) G.f_is_number sc_is_number (fun _ _ _ _ _ _ us hl => match us, hl with | [_], _ => rfl) fun f cdv A outer s H E hr hgd => by
    have hu := hu_room hr
    exact (mss_one (ms_ret (me_and (me_isiS G.isi rfl G.g_isinstance (ma_cons (me_var 0) (ma_cons (me_ty rfl G.g_int (by decide +kernel)) ma_nil))) (me_one (me_not (me_isiS G.isi rfl G.g_isinstance (ma_cons (me_var 0) (ma_cons (me_ty rfl G.g_bool (by decide +kernel)) ma_nil))))))))
theorem ok_is_among (G : Gs tb P K mg base) : OkG P w K mg base 2 "is_among" ["thing", "least", "most"] (spF ⟨K, mg, w⟩ c_is_among) :=
  okF (k := 1) G.f_is_among sc_is_among (fun _ _ _ _ _ _ us hl => match us, hl with | [_, _, _], _ => rfl) fun f cdv A outer s H E hr hgd => by
    have hu := hu_room hr
    exact (mss_one (ms_ret (me_and (me_og (ok_is_number G) hr (by decide) hgd rfl (takes_of rfl rfl rfl rfl) (ma_cons (me_var 0) ma_nil)) (me_one (me_leLe (me_var 1) (me_var 0) (me_var 2))))))
theorem ok_is_word (G : Gs tb P K mg base) : OkG P w K mg base 1 "is_word" ["thing"] (spF ⟨K, mg, w⟩ c_is_word) :=
  okF (k := 0) G.f_is_word sc_is_word (fun _ _ _ _ _ _ us hl => match us, hl with | [_], _ => rfl) fun f cdv A outer s H E hr hgd => by
    have hu := hu_room hr
    exact (mss_one (ms_ret (me_and (me_isiS G.isi rfl G.g_isinstance (ma_cons (me_var 0) (ma_cons (me_ty rfl G.g_str (by decide +kernel)) ma_nil))) (me_and (me_leLe me_int (me_len rfl G.g_len (ma_cons (me_var 0) ma_nil)) (me_gint rfl G.c_MOST_LETTERS)) (me_one (me_all rfl rfl G.g_all (ma_cons (me_lc (own := [("letter", 1)]) (gf_name 1) rfl sc_is_word.nd (mi_any (me_var 0)) (blkOk_by (N := ["thing", "letter"]) (sc := defScope s_is_word) (by decide +kernel)) (fun _ _ _ _ _ => (dg_name (i := 1) (js := [1]) sc_is_word.nd rfl (by first | exact Or.inl rfl | exact Or.inr rfl) (by decide))) (fun _ _ _ _ _ => mts_nil) (fun _ _ _ _ _ => (me_in hu (me_var 1) (me_gstr rfl G.c_LETTERS)))) ma_nil)))))))
theorem ok_are_rising (G : Gs tb P K mg base) : OkG P w K mg base 1 "are_rising" ["items"] (spF ⟨K, mg, w⟩ c_are_rising) :=
  okF (k := 0) G.f_are_rising sc_are_rising (fun _ _ _ _ _ _ us hl => match us, hl with | [_], _ => rfl) fun f cdv A outer s H E hr hgd => by
    have hu := hu_room hr
    exact (mss_one (ms_ret (me_all rfl rfl G.g_all (ma_cons (me_lc (own := [("one", 1), ("other", 2)]) (gf_2 1 2) rfl sc_are_rising.nd (mi_zip rfl G.g_zip (ma_cons (me_var 0) (ma_cons (me_slice (me_var 0) (mo_some me_int) mo_none) ma_nil))) (blkOk_by (N := ["items", "one", "other"]) (sc := defScope s_are_rising) (by decide +kernel)) (fun _ _ _ _ _ => (dg_2 rfl (dg_name (i := 1) (js := [1, 2]) sc_are_rising.nd rfl (by first | exact Or.inl rfl | exact Or.inr rfl) (by decide)) (dg_name (i := 2) (js := [1, 2]) sc_are_rising.nd rfl (by first | exact Or.inl rfl | exact Or.inr rfl) (by decide)))) (fun _ _ _ _ _ => mts_nil) (fun _ _ _ _ _ => (me_lt hu (me_var 1) (me_var 2)))) ma_nil))))
theorem ok_need_names (G : Gs tb P K mg base) : OkG P w K mg base 2 "need_names" ["thing"] (spF ⟨K, mg, w⟩ c_need_names) :=
  okF (k := 1) G.f_need_names sc_need_names (fun _ _ _ _ _ _ us hl => match us, hl with | [_], _ => rfl) fun f cdv A outer s H E hr hgd => by
    have hu := hu_room hr
    exact (mss_cons (ms_if (mt_w (mw_or (mt_not (mt_val (me_isiS G.isi rfl G.g_isinstance (ma_cons (me_var 0) (ma_cons (me_ty rfl G.g_tuple (by decide +kernel)) ma_nil))))) (mw_or1 (mt_not (mt_leLe (me_gint rfl G.c_LEAST_NAMES) (me_len rfl G.g_len (ma_cons (me_var 0) ma_nil)) (me_gint rfl G.c_MOST_NAMES)))))) (mss_one (ms_raise rfl (takes_of rfl rfl rfl rfl) G.x_BadNames G.b_BadNames G.g_super hr rfl (me_var 0))) mss_nil) (mss_cons (ms_if (mt_w (mw_or (mt_not (mt_val (me_all rfl rfl G.g_all (ma_cons (me_lc (own := [("one", 1)]) (gf_name 1) rfl sc_need_names.nd (mi_any (me_var 0)) (blkOk_by (N := ["thing", "one"]) (sc := defScope s_need_names) (by decide +kernel)) (fun _ _ _ _ _ => (dg_name (i := 1) (js := [1]) sc_need_names.nd rfl (by first | exact Or.inl rfl | exact Or.inr rfl) (by decide))) (fun _ _ _ _ _ => mts_nil) (fun _ _ _ _ _ => (me_og (ok_is_word G) hr (by decide) hgd rfl takes0 (ma_cons (me_var 1) ma_nil)))) ma_nil)))) (mw_or1 (mt_not (mt_val (me_og (ok_are_rising G) hr (by decide) hgd rfl (takes_of rfl rfl rfl rfl) (ma_cons (me_var 0) ma_nil))))))) (mss_one (ms_raise rfl (takes_of rfl rfl rfl rfl) G.x_BadNames G.b_BadNames G.g_super hr rfl (me_var 0))) mss_nil) (mss_one (ms_ret (me_var 0)))))
theorem ok_is_quota (G : Gs tb P K mg base) : OkG P w K mg base 3 "is_quota" ["thing"] (spF ⟨K, mg, w⟩ c_is_quota) :=
  okF (k := 2) G.f_is_quota sc_is_quota (fun _ _ _ _ _ _ us hl => match us, hl with | [_], _ => rfl) fun f cdv A outer s H E hr hgd => by
    have hu := hu_room hr
    exact (mss_cons (ms_if (mt_w (mw_or (mt_not (mt_val (me_isiS G.isi rfl G.g_isinstance (ma_cons (me_var 0) (ma_cons (me_ty rfl G.g_tuple (by decide +kernel)) ma_nil))))) (mw_or (mt_ne hu (me_len rfl G.g_len (ma_cons (me_var 0) ma_nil)) me_int) (mw_or1 (mt_not (mt_val (me_og (ok_is_among G) hr (by decide) hgd rfl (takes_of rfl rfl rfl rfl) (ma_cons (me_ix (me_var 0) me_int) (ma_cons me_int (ma_cons (me_gint rfl G.c_MOST_PART) ma_nil)))))))))) (mss_one (ms_ret me_bl)) mss_nil) (mss_one (ms_ret (me_og (ok_is_among G) hr (by decide) hgd rfl (takes_of rfl rfl rfl rfl) (ma_cons (me_ix (me_var 0) me_int) (ma_cons me_int (ma_cons (me_subB (me_ix (me_var 0) me_int) me_int) ma_nil)))))))
theorem ok_is_hand (G : Gs tb P K mg base) : OkG P w K mg base 3 "is_hand" ["thing"] (spF ⟨K, mg, w⟩ c_is_hand) :=
  okF (k := 2) G.f_is_hand sc_is_hand (fun _ _ _ _ _ _ us hl => match us, hl with | [_], _ => rfl) fun f cdv A outer s H E hr hgd => by
    have hu := hu_room hr
    exact (mss_cons (ms_if (mt_w (mw_or (mt_not (mt_val (me_isiS G.isi rfl G.g_isinstance (ma_cons (me_var 0) (ma_cons (me_ty rfl G.g_tuple (by decide +kernel)) ma_nil))))) (mw_or (mt_ne hu (me_len rfl G.g_len (ma_cons (me_var 0) ma_nil)) me_int) (mw_or1 (mt_not (mt_val (me_og (ok_is_among G) hr (by decide) hgd rfl (takes_of rfl rfl rfl rfl) (ma_cons (me_ix (me_var 0) me_int) (ma_cons me_int (ma_cons (me_gint rfl G.c_MOST_PART) ma_nil)))))))))) (mss_one (ms_ret me_bl)) mss_nil) (mss_one (ms_ret (me_og (ok_is_among G) hr (by decide) hgd rfl (takes_of rfl rfl rfl rfl) (ma_cons (me_ix (me_var 0) me_int) (ma_cons me_int (ma_cons (me_ix (me_var 0) me_int) ma_nil)))))))
theorem ok_is_order (G : Gs tb P K mg base) : OkG P w K mg base 1 "is_order" ["names", "thing"] (spF ⟨K, mg, w⟩ c_is_order) :=
  okF (k := 0) G.f_is_order sc_is_order (fun _ _ _ _ _ _ us hl => match us, hl with | [_, _], _ => rfl) fun f cdv A outer s H E hr hgd => by
    have hu := hu_room hr
    exact (mss_cons (ms_if (mt_w (mw_or (mt_not (mt_val (me_isiS G.isi rfl G.g_isinstance (ma_cons (me_var 1) (ma_cons (me_ty rfl G.g_tuple (by decide +kernel)) ma_nil))))) (mw_or1 (mt_not (mt_val (me_all rfl rfl G.g_all (ma_cons (me_lc (own := [("one", 2)]) (gf_name 2) rfl sc_is_order.nd (mi_any (me_var 1)) (blkOk_by (N := ["names", "thing", "one"]) (sc := defScope s_is_order) (by decide +kernel)) (fun _ _ _ _ _ => (dg_name (i := 2) (js := [2]) sc_is_order.nd rfl (by first | exact Or.inl rfl | exact Or.inr rfl) (by decide))) (fun _ _ _ _ _ => mts_nil) (fun _ _ _ _ _ => (me_isiS G.isi rfl G.g_isinstance (ma_cons (me_var 2) (ma_cons (me_ty rfl G.g_str (by decide +kernel)) ma_nil))))) ma_nil))))))) (mss_one (ms_ret me_bl)) mss_nil) (mss_one (ms_ret (me_eq hu (me_tuple rfl G.g_tuple (ma_cons (me_sortedT hu rfl G.g_sorted (ma_cons (me_var 1) ma_nil)) ma_nil)) (me_var 0)))))
theorem ok_Rule___init__ (G : Gs tb P K mg base) : OkC P w K mg base 4 "Rule" ["self", "names", "seats", "quota", "over", "hand", "order"] (spF ⟨K, mg, w⟩ c_Rule___init__) :=
  okFC (k := 3) G.f_Rule___init__ sc_Rule___init__ (fun _ _ _ _ _ _ us hl => match us, hl with | [_, _, _, _, _, _, _], _ => rfl) fun f cdv A outer s H E hr hgd => by
    have hu := hu_room hr
    exact (mss_cons (ms_expr (me_og (ok_need_names G) hr (by decide) hgd rfl (takes_of rfl rfl rfl rfl) (ma_cons (me_var 1) ma_nil))) (mss_cons (ms_set (i := 7) sc_Rule___init__.nd rfl (by first | exact Or.inl rfl | exact Or.inr rfl) (me_lst (ma_cons (me_tup (ma_cons me_str (ma_cons (me_og (ok_is_among G) hr (by decide) hgd rfl (takes_of rfl rfl rfl rfl) (ma_cons (me_var 2) (ma_cons me_int (ma_cons (me_subB (me_len rfl G.g_len (ma_cons (me_var 1) ma_nil)) me_int) ma_nil)))) ma_nil))) (ma_cons (me_tup (ma_cons me_str (ma_cons (me_og (ok_is_quota G) hr (by decide) hgd rfl (takes_of rfl rfl rfl rfl) (ma_cons (me_var 3) ma_nil)) ma_nil))) ma_nil)))) (mss_cons (ms_set (i := 7) sc_Rule___init__.nd rfl (by first | exact Or.inl rfl | exact Or.inr rfl) (me_lst (ma_star (me_var 7) (ma_cons (me_tup (ma_cons me_str (ma_cons (me_isiS G.isi rfl G.g_isinstance (ma_cons (me_var 4) (ma_cons (me_ty rfl G.g_bool (by decide +kernel)) ma_nil))) ma_nil))) (ma_cons (me_tup (ma_cons me_str (ma_cons (me_og (ok_is_hand G) hr (by decide) hgd rfl (takes_of rfl rfl rfl rfl) (ma_cons (me_var 5) ma_nil)) ma_nil))) (ma_cons (me_tup (ma_cons me_str (ma_cons (me_og (ok_is_order G) hr (by decide) hgd rfl (takes_of rfl rfl rfl rfl) (ma_cons (me_var 1) (ma_cons (me_var 6) ma_nil))) ma_nil))) ma_nil)))))) (mss_cons (ms_for (gf_2 8 9) (passes_of rfl) rfl (mi_any (me_var 7)) (dg_2 rfl (dg_name (i := 8) (js := [8, 9]) sc_Rule___init__.nd rfl (by first | exact Or.inl rfl | exact Or.inr rfl) (by decide)) (dg_name (i := 9) (js := [8, 9]) sc_Rule___init__.nd rfl (by first | exact Or.inl rfl | exact Or.inr rfl) (by decide))) (mss_one (ms_if (mt_not (mt_val (me_var 9))) (mss_one (ms_raise rfl (takes_of rfl rfl rfl rfl) G.x_BadRule G.b_BadRule G.g_super hr rfl (me_var 8))) mss_nil)) (of_2 8 9)) (mss_cons (ms_fld G.attO (me_var 0) (me_var 1)) (mss_cons (ms_fld G.attO (me_var 0) (me_var 2)) (mss_cons (ms_fld G.attO (me_var 0) (me_var 3)) (mss_cons (ms_fld G.attO (me_var 0) (me_var 4)) (mss_cons (ms_fld G.attO (me_var 0) (me_var 5)) (mss_one (ms_fld G.attO (me_var 0) (me_var 6))))))))))))
theorem ok_Rule_fields (G : Gs tb P K mg base) : OkM P w K mg base 1 "Rule" "fields" ["self"] (spF ⟨K, mg, w⟩ c_Rule_fields) :=
  okFM (k := 0) G.f_Rule_fields sc_Rule_fields (fun _ _ _ _ _ _ us hl => match us, hl with | [_], _ => rfl) fun f cdv A outer s H E hr hgd => by
    have hu := hu_room hr
    exact (mss_one (ms_ret (me_tup (ma_cons (me_fld G.attO (me_var 0)) (ma_cons (me_fld G.attO (me_var 0)) (ma_cons (me_fld G.attO (me_var 0)) (ma_cons (me_fld G.attO (me_var 0)) (ma_cons (me_fld G.attO (me_var 0)) (ma_cons (me_fld G.attO (me_var 0)) ma_nil)))))))))
theorem ok_Rule___eq__ (G : Gs tb P K mg base) : OkM P w K mg base 6 "Rule" "__eq__" ["self", "other"] (spF ⟨K, mg, w⟩ c_Rule___eq__) :=
  okFM (k := 5) G.f_Rule___eq__ sc_Rule___eq__ (fun _ _ _ _ _ _ us hl => match us, hl with | [_, _], _ => rfl) fun f cdv A outer s H E hr hgd => by
    have hu := hu_room hr
    exact (mss_one (ms_ret (me_and (me_isiS G.isi rfl G.g_isinstance (ma_cons (me_var 1) (ma_cons (me_cls rfl G.k_Rule) ma_nil))) (me_one (me_eq hu (me_meth0 (ok_Rule_fields G) hr (by decide) hgd (takes_of rfl rfl rfl rfl) (me_var 0)) (me_meth0 (ok_Rule_fields G) hr (by decide) hgd (takes_of rfl rfl rfl rfl) (me_var 1)))))))
theorem ok_Rule_with_seats (G : Gs tb P K mg base) : OkM P w K mg base 6 "Rule" "with_seats" ["self", "seats"] (spF ⟨K, mg, w⟩ c_Rule_with_seats) :=
  okFM (k := 5) G.f_Rule_with_seats sc_Rule_with_seats (fun _ _ _ _ _ _ us hl => match us, hl with | [_, _], _ => rfl) fun f cdv A outer s H E hr hgd => by
    have hu := hu_room hr
    exact (mss_one (ms_ret (me_mkP (ok_Rule___init__ G) hr (by decide) hgd rfl (takes_of rfl rfl rfl rfl) (ma_cons (me_fld G.attO (me_var 0)) (ma_cons (me_var 1) (ma_cons (me_fld G.attO (me_var 0)) (ma_cons (me_fld G.attO (me_var 0)) (ma_cons (me_fld G.attO (me_var 0)) (ma_cons (me_fld G.attO (me_var 0)) ma_nil)))))))))
theorem ok_Rule_with_quota (G : Gs tb P K mg base) : OkM P w K mg base 6 "Rule" "with_quota" ["self", "quota", "over"] (spF ⟨K, mg, w⟩ c_Rule_with_quota) :=
  okFM (k := 5) G.f_Rule_with_quota sc_Rule_with_quota (fun _ _ _ _ _ _ us hl => match us, hl with | [_, _, _], _ => rfl) fun f cdv A outer s H E hr hgd => by
    have hu := hu_room hr
    exact (mss_one (ms_ret (me_mkP (ok_Rule___init__ G) hr (by decide) hgd rfl (takes_of rfl rfl rfl rfl) (ma_cons (me_fld G.attO (me_var 0)) (ma_cons (me_fld G.attO (me_var 0)) (ma_cons (me_var 1) (ma_cons (me_var 2) (ma_cons (me_fld G.attO (me_var 0)) (ma_cons (me_fld G.attO (me_var 0)) ma_nil)))))))))
theorem ok_Rule_with_hand (G : Gs tb P K mg base) : OkM P w K mg base 6 "Rule" "with_hand" ["self", "hand"] (spF ⟨K, mg, w⟩ c_Rule_with_hand) :=
  okFM (k := 5) G.f_Rule_with_hand sc_Rule_with_hand (fun _ _ _ _ _ _ us hl => match us, hl with | [_, _], _ => rfl) fun f cdv A outer s H E hr hgd => by
    have hu := hu_room hr
    exact (mss_one (ms_ret (me_mkP (ok_Rule___init__ G) hr (by decide) hgd rfl (takes_of rfl rfl rfl rfl) (ma_cons (me_fld G.attO (me_var 0)) (ma_cons (me_fld G.attO (me_var 0)) (ma_cons (me_fld G.attO (me_var 0)) (ma_cons (me_fld G.attO (me_var 0)) (ma_cons (me_var 1) (ma_cons (me_fld G.attO (me_var 0)) ma_nil)))))))))
theorem ok_Rule_with_order (G : Gs tb P K mg base) : OkM P w K mg base 6 "Rule" "with_order" ["self", "order"] (spF ⟨K, mg, w⟩ c_Rule_with_order) :=
  okFM (k := 5) G.f_Rule_with_order sc_Rule_with_order (fun _ _ _ _ _ _ us hl => match us, hl with | [_, _], _ => rfl) fun f cdv A outer s H E hr hgd => by
    have hu := hu_room hr
    exact (mss_one (ms_ret (me_mkP (ok_Rule___init__ G) hr (by decide) hgd rfl (takes_of rfl rfl rfl rfl) (ma_cons (me_fld G.attO (me_var 0)) (ma_cons (me_fld G.attO (me_var 0)) (ma_cons (me_fld G.attO (me_var 0)) (ma_cons (me_fld G.attO (me_var 0)) (ma_cons (me_fld G.attO (me_var 0)) (ma_cons (me_var 1) ma_nil)))))))))
theorem ok_units (G : Gs tb P K mg base) : OkG P w K mg base 1 "units" ["rule"] (spF ⟨K, mg, w⟩ c_units) :=
  okF (k := 0) G.f_units sc_units (fun _ _ _ _ _ _ us hl => match us, hl with | [_], _ => rfl) fun f cdv A outer s H E hr hgd => by
    have hu := hu_room hr
    exact (mss_cons (ms_set (i := 1) sc_units.nd rfl (by first | exact Or.inl rfl | exact Or.inr rfl) me_int) (mss_cons (ms_for (gf_name 2) (passes_of rfl) rfl (mi_range1 rfl G.g_range (ma_cons (me_fld G.attO (me_var 0)) ma_nil)) (dg_name (i := 2) (js := [2]) sc_units.nd rfl (by first | exact Or.inl rfl | exact Or.inr rfl) (by decide)) (mss_one (ms_set (i := 1) sc_units.nd rfl (by first | exact Or.inl rfl | exact Or.inr rfl) (me_mul (me_var 1) (me_ix (me_fld G.attO (me_var 0)) me_int)))) (of_name 2)) (mss_one (ms_ret (me_var 1)))))
theorem ok0_law_begun (G : Gs tb P K mg base) : OkG P w K mg base 1 "_law_begun" ["_law_script"] spBegun := by
  obtain ⟨f, fd, hm, F⟩ := G.f_law_begun
  refine ⟨f, fd, hm, F.kp, F.binds (fun _ _ _ _ _ _ us hl => match us, hl with | [_], _ => rfl), L2.FnOk.g ?_⟩
  refine F.okX (k := 0) sc_law_begun (spL_len fun R ds Q E ⟨ns, _, _, e, _⟩ => by rw [e]; rfl) (fun cdv A outer s H vs Q E hr h => ?_)
  refine ⟨tBegunDef K, pss_one (ps_ret (pe_disp (pps_cons pe_str (pe_callTy call_list_of (by rfl) G.g_list (by decide +kernel) (pa_cons (pv 0) pa_nil))
    (pps_cons pe_str (pe_lc (own := [("_law_cell", 1)]) rfl sc_law_begun.nd (pi_list (pv 0)) (blkOk_by (N := ["_law_script", "_law_cell"]) (sc := defScope s_law_begun) (by decide +kernel)) (fun _ _ _ _ _ => pg_name (i := 1) sc_law_begun.nd rfl (Or.inl rfl)) (fun _ _ _ _ _ => pts_one (pt_cmpR op_ge (pv 1) (pe_op op_pow pe_int pe_int) (nomark _))) (fun _ _ _ _ _ => pv 1))
    (pps_cons pe_str pe_int pps_nil))) rfl rfl (by simp) (by decide))), begun_vc h⟩
theorem ok_law_begun (G : Gs tb P K mg base) : OkG P w K mg base 1 "_law_begun" ["_law_script"] (spF ⟨K, mg, w⟩ c_law_begun) := (ok0_law_begun G).imp fun _ _ _ _ h => spF_begun h
theorem ok0_law_next (G : Gs tb P K mg base) : OkG P w K mg base 1 "_law_next" ["_law_m", "_law_many_here"] spNext := by
  obtain ⟨f, fd, hm, F⟩ := G.f_law_next
  refine ⟨f, fd, hm, F.kp, F.binds (fun _ _ _ _ _ _ us hl => match us, hl with | [_, _], _ => rfl), L2.FnOk.g ?_⟩
  refine F.okX (k := 0) sc_law_next (spL_len fun R ds Q E ⟨a, n, k, _, _, e, _⟩ => by rw [e]; rfl) (fun cdv A outer s H vs Q E hr h => ?_)
  have hu := hu_of hr
  have hu2 := hr.units
  refine ⟨tNextDef K, pss_cons (ps_while (passes_of rfl) (PW.pt (pw_and (pt_cmpR (op_neD hu2) (pe_dget hu (pv 0) pe_str (fun _ _ => rfl)) (pe_lst pa_nil) (nomark _))
        (pw_and1 (pt_cmpR op_eq (pe_ix ix_list (pe_dget hu (pv 0) pe_str (fun _ _ => rfl)) pe_int (fun _ _ => rfl)) pe_int (nomark _)))))
      (pss_one (ps_dput hu (pv 0) pe_str (pe_slice sl_list (pe_dget hu (pv 0) pe_str (fun _ _ => rfl)) (po_some pe_int) po_none) rfl)))
    (pss_cons (ps_if (pt_cmpR (op_neD hu2) (pe_dget hu (pv 0) pe_str (fun _ _ => rfl)) (pe_lst pa_nil) (nomark _))
      (pss_cons (ps_set (i := 2) sc_law_next.nd rfl (Or.inl rfl) (pe_ix ix_list (pe_dget hu (pv 0) pe_str (fun _ _ => rfl)) pe_int (fun _ _ => rfl)))
      (pss_cons (ps_asg (pe_op op_fdiv (pv 2) (pv 1)) (pg_sub (pe_dget hu (pv 0) pe_str (fun _ _ => rfl)) pe_int set_list))
      (pss_one (ps_ret (pe_op op_mod (pe_callTy call_int1 (by rfl) G.g_int (by decide +kernel) (pa_cons (pv 2) pa_nil)) (pv 1)))))) pss_nil)
    (pss_cons (ps_par (i := 3) (j := 4) (by rfl) sc_law_next.nd rfl rfl (by decide) rfl rfl (pa_cons (pe_op op_add (pe_dget hu (pv 0) pe_str (fun _ _ => rfl)) pe_int) (pa_cons (pe_dget hu (pv 0) pe_str (fun _ _ => rfl)) pa_nil)) (by rfl))
    (pss_cons (ps_dput hu (pv 0) pe_str (pv 3) rfl)
    (pss_cons (ps_set (i := 5) sc_law_next.nd rfl (Or.inl rfl) (pe_ifExp (pt_cmpR (op_neD hu2) (pv 4) (pe_lst pa_nil) (nomark _))
        (pe_callTy call_int1 (by rfl) G.g_int (by decide +kernel) (pa_cons (pe_ix ix_list (pv 4) (pe_op op_mod (pe_callTy call_int1 (by rfl) G.g_int (by decide +kernel) (pa_cons (pe_op op_add (pe_op op_mul (pv 3) (pv 3)) (pe_op op_fdiv (pv 3) pe_int)) pa_nil)) (pe_callB call_len_seq (by rfl) G.g_len PySem.boot_len (pa_cons (pv 4) pa_nil))) (fun _ _ => rfl)) pa_nil)) pe_int))
    (pss_cons (ps_set (i := 6) sc_law_next.nd rfl (Or.inl rfl) (pe_op op_mod (pe_callTy call_int1 (by rfl) G.g_int (by decide +kernel) (pa_cons (pe_op op_add (pe_op op_add (pe_op op_mul (pv 5) pe_int) (pe_op op_mul (pv 3) pe_int)) (pe_op op_mul (pe_op op_mul pe_int (pv 3)) (pv 3))) pa_nil)) pe_int))
    (pss_one (ps_ret (pe_op op_mod (pe_callTy call_int1 (by rfl) G.g_int (by decide +kernel) (pa_cons (pe_op op_fdiv (pe_op op_mod (pe_callTy call_int1 (by rfl) G.g_int (by decide +kernel) (pa_cons (pe_op op_add (pe_op op_mul (pv 6) pe_int) (pe_op op_mul pe_int (pv 3))) pa_nil)) pe_int) pe_int) pa_nil)) (pv 1))))))))), next_vc h⟩

theorem ok_law_next (G : Gs tb P K mg base) : OkG P w K mg base 1 "_law_next" ["_law_m", "_law_many_here"] (spF ⟨K, mg, w⟩ c_law_next) := (ok0_law_next G).imp fun _ _ _ _ h => spF_next h
theorem ok_law_names (G : Gs tb P K mg base) : OkG P w K mg base 2 "_law_names" ["_law_m", "_law_many_here"] (spF ⟨K, mg, w⟩ c_law_names) :=
  okF (k := 1) G.f_law_names sc_law_names (fun _ _ _ _ _ _ us hl => match us, hl with | [_, _], _ => rfl) fun f cdv A outer s H E hr hgd => by
    have hu := hu_room hr
    exact (mss_cons (ms_asg (gf_2 2 3) (me_tup (ma_cons me_str (ma_cons me_str ma_nil))) (dg_2 rfl (dg_name (i := 2) (js := [2, 3]) sc_law_names.nd rfl (by first | exact Or.inl rfl | exact Or.inr rfl) (by decide)) (dg_name (i := 3) (js := [2, 3]) sc_law_names.nd rfl (by first | exact Or.inl rfl | exact Or.inr rfl) (by decide))) (of_2 2 3)) (mss_cons (ms_for (gf_name 4) (passes_of rfl) rfl (mi_range1 rfl G.g_range (ma_cons (me_og (ok_law_next G) hr (by decide) hgd rfl (takes_of rfl rfl rfl rfl) (ma_cons (me_var 0) (ma_cons me_int ma_nil))) ma_nil)) (dg_name (i := 4) (js := [4]) sc_law_names.nd rfl (by first | exact Or.inl rfl | exact Or.inr rfl) (by decide)) (mss_one (ms_set (i := 3) sc_law_names.nd rfl (by first | exact Or.inl rfl | exact Or.inr rfl) (me_add (me_var 3) (me_ix (me_var 2) (me_og (ok_law_next G) hr (by decide) hgd rfl (takes_of rfl rfl rfl rfl) (ma_cons (me_var 0) (ma_cons me_int ma_nil))))))) (of_name 4)) (mss_cons (ms_asg (gf_3 5 6 7) (me_tup (ma_cons (me_og (ok_law_next G) hr (by decide) hgd rfl (takes_of rfl rfl rfl rfl) (ma_cons (me_var 0) (ma_cons (me_add (me_len rfl G.g_len (ma_cons (me_var 3) ma_nil)) me_int) ma_nil))) (ma_cons (me_og (ok_law_next G) hr (by decide) hgd rfl (takes_of rfl rfl rfl rfl) (ma_cons (me_var 0) (ma_cons me_int ma_nil))) (ma_cons (me_ix (me_lst (ma_cons me_int (ma_cons me_int (ma_cons me_int (ma_cons me_int (ma_cons me_int (ma_cons me_int ma_nil))))))) (me_og (ok_law_next G) hr (by decide) hgd rfl (takes_of rfl rfl rfl rfl) (ma_cons (me_var 0) (ma_cons me_int ma_nil)))) ma_nil)))) (dg_3 rfl (dg_name (i := 5) (js := [5, 6, 7]) sc_law_names.nd rfl (by first | exact Or.inl rfl | exact Or.inr rfl) (by decide)) (dg_name (i := 6) (js := [5, 6, 7]) sc_law_names.nd rfl (by first | exact Or.inl rfl | exact Or.inr rfl) (by decide)) (dg_name (i := 7) (js := [5, 6, 7]) sc_law_names.nd rfl (by first | exact Or.inl rfl | exact Or.inr rfl) (by decide))) (of_3 5 6 7)) (mss_cons (ms_set (i := 8) sc_law_names.nd rfl (by first | exact Or.inl rfl | exact Or.inr rfl) (me_slice (me_add (me_var 3) (me_mul (me_ix (me_var 2) (me_var 6)) me_int)) mo_none (mo_some me_int))) (mss_cons (ms_if (mt_w (mw_and (mt_gt (me_var 7) me_int) (mw_and1 (mt_lt hu (me_var 1) me_int)))) (mss_one (ms_ret (me_lc (own := [("_law_k", 4)]) (gf_name 4) rfl sc_law_names.nd (mi_range1 rfl G.g_range (ma_cons (me_var 1) ma_nil)) (blkOk_by (N := ["_law_m", "_law_many_here", "_law_letters", "_law_stem", "_law_k", "_law_at", "_law_first_here", "_law_by", "_law_word"]) (sc := defScope s_law_names) (by decide +kernel)) (fun _ _ _ _ _ => (dg_name (i := 4) (js := [4]) sc_law_names.nd rfl (by first | exact Or.inl rfl | exact Or.inr rfl) (by decide))) (fun _ _ _ _ _ => mts_nil) (fun _ _ _ _ _ => (me_if (mt_gt (me_var 7) me_int) (me_slice (me_var 8) (mo_some (me_var 4)) mo_none) (me_slice (me_var 8) mo_none (mo_some (me_subB (me_add (me_var 4) me_int) (me_var 1))))))))) mss_nil) (mss_one (ms_ret (me_lc (own := [("_law_k", 4)]) (gf_name 4) rfl sc_law_names.nd (mi_range1 rfl G.g_range (ma_cons (me_var 1) ma_nil)) (blkOk_by (N := ["_law_m", "_law_many_here", "_law_letters", "_law_stem", "_law_k", "_law_at", "_law_first_here", "_law_by", "_law_word"]) (sc := defScope s_law_names) (by decide +kernel)) (fun _ _ _ _ _ => (dg_name (i := 4) (js := [4]) sc_law_names.nd rfl (by first | exact Or.inl rfl | exact Or.inr rfl) (by decide))) (fun _ _ _ _ _ => mts_nil) (fun _ _ _ _ _ => (me_add (me_add (me_slice (me_var 3) mo_none (mo_some (me_var 5))) (me_ix (me_var 2) (me_mod (me_int1 rfl G.g_int (ma_cons (me_add (me_var 6) (me_mul (me_var 7) (me_var 4))) ma_nil)) me_int))) (me_slice (me_var 3) (mo_some (me_var 5)) mo_none)))))))))))
theorem ok_law_many (G : Gs tb P K mg base) : OkG P w K mg base 3 "_law_many" ["_law_m", "_law_most"] (spF ⟨K, mg, w⟩ c_law_many) :=
  okF (k := 2) G.f_law_many sc_law_many (fun _ _ _ _ _ _ us hl => match us, hl with | [_, _], _ => rfl) fun f cdv A outer s H E hr hgd => by
    have hu := hu_room hr
    exact (mss_one (ms_ret (me_tuple rfl G.g_tuple (ma_cons (me_sortedT hu rfl G.g_sorted (ma_cons (me_og (ok_law_names G) hr (by decide) hgd rfl (takes_of rfl rfl rfl rfl) (ma_cons (me_var 0) (ma_cons (me_add me_int (me_og (ok_law_next G) hr (by decide) hgd rfl (takes_of rfl rfl rfl rfl) (ma_cons (me_var 0) (ma_cons (me_subB (me_var 1) me_int) ma_nil)))) ma_nil))) ma_nil)) ma_nil))))
theorem ok_law_order (G : Gs tb P K mg base) : OkG P w K mg base 2 "_law_order" ["_law_m", "_law_many_here"] (spF ⟨K, mg, w⟩ c_law_order) :=
  okF (k := 1) G.f_law_order sc_law_order (fun _ _ _ _ _ _ us hl => match us, hl with | [_, _], _ => rfl) fun f cdv A outer s H E hr hgd => by
    have hu := hu_room hr
    exact (mss_cons (ms_par (i := 2) (j := 3) rfl sc_law_order.nd rfl rfl (by decide) rfl rfl (ma_cons (me_list rfl G.g_list (ma_cons (me_var 1) ma_nil)) (ma_cons (me_tup ma_nil) ma_nil)) (by rfl)) (mss_cons (ms_while (passes_of rfl) (mt_ne hu (me_var 2) (me_lst ma_nil)) (mss_cons (ms_set (i := 4) sc_law_order.nd rfl (by first | exact Or.inl rfl | exact Or.inr rfl) (me_og (ok_law_next G) hr (by decide) hgd rfl (takes_of rfl rfl rfl rfl) (ma_cons (me_var 0) (ma_cons (me_len rfl G.g_len (ma_cons (me_var 2) ma_nil)) ma_nil)))) (mss_one (ms_par (i := 3) (j := 2) rfl sc_law_order.nd rfl rfl (by decide) rfl rfl (ma_cons (me_add (me_var 3) (me_tup (ma_cons (me_ix (me_var 2) (me_var 4)) ma_nil))) (ma_cons (me_add (me_slice (me_var 2) mo_none (mo_some (me_var 4))) (me_slice (me_var 2) (mo_some (me_add (me_var 4) me_int)) mo_none)) ma_nil)) (by rfl))))) (mss_one (ms_ret (me_var 3)))))
theorem ok_law_rule (G : Gs tb P K mg base) : OkG P w K mg base 3 "_law_rule" ["_law_m", "_law_many_here"] (spF ⟨K, mg, w⟩ c_law_rule) :=
  okF (k := 2) G.f_law_rule sc_law_rule (fun _ _ _ _ _ _ us hl => match us, hl with | [_, _], _ => rfl) fun f cdv A outer s H E hr hgd => by
    have hu := hu_room hr
    exact (mss_cons (ms_set (i := 2) sc_law_rule.nd rfl (by first | exact Or.inl rfl | exact Or.inr rfl) (me_add me_int (me_og (ok_law_next G) hr (by decide) hgd rfl (takes_of rfl rfl rfl rfl) (ma_cons (me_var 0) (ma_cons (me_subB (me_len rfl G.g_len (ma_cons (me_var 1) ma_nil)) me_int) ma_nil))))) (mss_cons (ms_set (i := 3) sc_law_rule.nd rfl (by first | exact Or.inl rfl | exact Or.inr rfl) (me_ix (me_lst (ma_cons (me_tup (ma_cons me_int (ma_cons me_int ma_nil))) (ma_cons (me_tup (ma_cons me_int (ma_cons me_int ma_nil))) (ma_cons (me_tup (ma_cons me_int (ma_cons (me_add (me_var 2) me_int) ma_nil))) (ma_cons (me_tup (ma_cons me_int (ma_cons me_int ma_nil))) (ma_cons (me_tup (ma_cons me_int (ma_cons me_int ma_nil))) (ma_cons (me_tup (ma_cons me_int (ma_cons me_int ma_nil))) (ma_cons (me_tup (ma_cons me_int (ma_cons me_int ma_nil))) ma_nil)))))))) (me_og (ok_law_next G) hr (by decide) hgd rfl (takes_of rfl rfl rfl rfl) (ma_cons (me_var 0) (ma_cons me_int ma_nil))))) (mss_cons (ms_set (i := 4) sc_law_rule.nd rfl (by first | exact Or.inl rfl | exact Or.inr rfl) (me_ix (me_lst (ma_cons (me_tup (ma_cons me_int (ma_cons me_int ma_nil))) (ma_cons (me_tup (ma_cons me_int (ma_cons me_int ma_nil))) (ma_cons (me_tup (ma_cons me_int (ma_cons me_int ma_nil))) (ma_cons (me_tup (ma_cons me_int (ma_cons me_int ma_nil))) (ma_cons (me_tup (ma_cons me_int (ma_cons me_int ma_nil))) (ma_cons (me_tup (ma_cons me_int (ma_cons me_int ma_nil))) (ma_cons (me_tup (ma_cons me_int (ma_cons me_int ma_nil))) ma_nil)))))))) (me_og (ok_law_next G) hr (by decide) hgd rfl (takes_of rfl rfl rfl rfl) (ma_cons (me_var 0) (ma_cons me_int ma_nil))))) (mss_one (ms_ret (me_tup (ma_cons (me_var 1) (ma_cons (me_var 2) (ma_cons (me_var 3) (ma_cons (me_eq hu (me_og (ok_law_next G) hr (by decide) hgd rfl (takes_of rfl rfl rfl rfl) (ma_cons (me_var 0) (ma_cons me_int ma_nil))) me_int) (ma_cons (me_var 4) (ma_cons (me_og (ok_law_order G) hr (by decide) hgd rfl (takes_of rfl rfl rfl rfl) (ma_cons (me_var 0) (ma_cons (me_var 1) ma_nil))) ma_nil))))))))))))
theorem ok_law_units (G : Gs tb P K mg base) : OkG P w K mg base 1 "_law_units" ["_law_rule_here"] (spF ⟨K, mg, w⟩ c_law_units) :=
  okF (k := 0) G.f_law_units sc_law_units (fun _ _ _ _ _ _ us hl => match us, hl with | [_], _ => rfl) fun f cdv A outer s H E hr hgd => by
    have hu := hu_room hr
    exact (mss_cons (ms_set (i := 1) sc_law_units.nd rfl (by first | exact Or.inl rfl | exact Or.inr rfl) me_int) (mss_cons (ms_for (gf_name 2) (passes_of rfl) rfl (mi_range1 rfl G.g_range (ma_cons (me_ix (me_var 0) me_int) ma_nil)) (dg_name (i := 2) (js := [2]) sc_law_units.nd rfl (by first | exact Or.inl rfl | exact Or.inr rfl) (by decide)) (mss_one (ms_set (i := 1) sc_law_units.nd rfl (by first | exact Or.inl rfl | exact Or.inr rfl) (me_mul (me_var 1) (me_ix (me_ix (me_var 0) me_int) me_int)))) (of_name 2)) (mss_one (ms_ret (me_var 1)))))
theorem ok_law_is_whole (G : Gs tb P K mg base) : OkG P w K mg base 1 "_law_is_whole" ["_law_thing", "_law_least", "_law_most"] (spF ⟨K, mg, w⟩ c_law_is_whole) :=
  okF (k := 0) G.f_law_is_whole sc_law_is_whole (fun _ _ _ _ _ _ us hl => match us, hl with | [_, _, _], _ => rfl) fun f cdv A outer s H E hr hgd => by
    have hu := hu_room hr
    exact (mss_one (ms_ret (me_and (me_isiS G.isi rfl G.g_isinstance (ma_cons (me_var 0) (ma_cons (me_ty rfl G.g_int (by decide +kernel)) ma_nil))) (me_and (me_not (me_isiS G.isi rfl G.g_isinstance (ma_cons (me_var 0) (ma_cons (me_ty rfl G.g_bool (by decide +kernel)) ma_nil)))) (me_one (me_leLe (me_var 1) (me_var 0) (me_var 2)))))))
theorem ok_law_wrong (G : Gs tb P K mg base) : OkG P w K mg base 2 "_law_wrong" ["_law_fields"] (spF ⟨K, mg, w⟩ c_law_wrong) :=
  okF (k := 1) G.f_law_wrong sc_law_wrong (fun _ _ _ _ _ _ us hl => match us, hl with | [_], _ => rfl) fun f cdv A outer s H E hr hgd => by
    have hu := hu_room hr
    exact (mss_cons (ms_asg (gf_tup (gfl_cons (gf_name 1) (gfl_cons (gf_name 2) (gfl_cons (gf_name 3) (gfl_cons (gf_name 4) (gfl_cons (gf_name 5) (gfl_cons (gf_name 6) gfl_nil))))))) (me_var 0) (dg_tup rfl (dgs_cons (dg_name (i := 1) (js := [1, 2, 3, 4, 5, 6]) sc_law_wrong.nd rfl (by first | exact Or.inl rfl | exact Or.inr rfl) (by decide)) (dgs_cons (dg_name (i := 2) (js := [1, 2, 3, 4, 5, 6]) sc_law_wrong.nd rfl (by first | exact Or.inl rfl | exact Or.inr rfl) (by decide)) (dgs_cons (dg_name (i := 3) (js := [1, 2, 3, 4, 5, 6]) sc_law_wrong.nd rfl (by first | exact Or.inl rfl | exact Or.inr rfl) (by decide)) (dgs_cons (dg_name (i := 4) (js := [1, 2, 3, 4, 5, 6]) sc_law_wrong.nd rfl (by first | exact Or.inl rfl | exact Or.inr rfl) (by decide)) (dgs_cons (dg_name (i := 5) (js := [1, 2, 3, 4, 5, 6]) sc_law_wrong.nd rfl (by first | exact Or.inl rfl | exact Or.inr rfl) (by decide)) (dgs_cons (dg_name (i := 6) (js := [1, 2, 3, 4, 5, 6]) sc_law_wrong.nd rfl (by first | exact Or.inl rfl | exact Or.inr rfl) (by decide)) dgs_nil)))))) rfl rfl (gl_cons (gl_cons (gl_cons (gl_cons (gl_cons (gl_cons gl_nil mono_name) mono_name) mono_name) mono_name) mono_name) mono_name)) (of_tup (ofs_cons (of_name 1) (ofs_cons (of_name 2) (ofs_cons (of_name 3) (ofs_cons (of_name 4) (ofs_cons (of_name 5) (ofs_cons (of_name 6) ofs_nil (mon_name 6) mons_nil) (mon_name 5) (mons_cons (mon_name 6) mons_nil)) (mon_name 4) (mons_cons (mon_name 5) (mons_cons (mon_name 6) mons_nil))) (mon_name 3) (mons_cons (mon_name 4) (mons_cons (mon_name 5) (mons_cons (mon_name 6) mons_nil)))) (mon_name 2) (mons_cons (mon_name 3) (mons_cons (mon_name 4) (mons_cons (mon_name 5) (mons_cons (mon_name 6) mons_nil))))) (mon_name 1) (mons_cons (mon_name 2) (mons_cons (mon_name 3) (mons_cons (mon_name 4) (mons_cons (mon_name 5) (mons_cons (mon_name 6) mons_nil)))))))) (mss_cons (ms_if (mt_not (mt_val (me_og (ok_law_is_whole G) hr (by decide) hgd rfl (takes_of rfl rfl rfl rfl) (ma_cons (me_var 2) (ma_cons me_int (ma_cons (me_subB (me_len rfl G.g_len (ma_cons (me_var 1) ma_nil)) me_int) ma_nil)))))) (mss_one (ms_ret me_str)) mss_nil) (mss_cons (ms_for (gf_3 7 8 9) (passes_of rfl) rfl (mi_any (me_tup (ma_cons (me_tup (ma_cons me_str (ma_cons (me_var 3) (ma_cons me_int ma_nil)))) (ma_cons (me_tup (ma_cons me_str (ma_cons (me_var 4) (ma_cons me_int ma_nil)))) (ma_cons (me_tup (ma_cons me_str (ma_cons (me_var 5) (ma_cons me_int ma_nil)))) ma_nil))))) (dg_3 rfl (dg_name (i := 7) (js := [7, 8, 9]) sc_law_wrong.nd rfl (by first | exact Or.inl rfl | exact Or.inr rfl) (by decide)) (dg_name (i := 8) (js := [7, 8, 9]) sc_law_wrong.nd rfl (by first | exact Or.inl rfl | exact Or.inr rfl) (by decide)) (dg_name (i := 9) (js := [7, 8, 9]) sc_law_wrong.nd rfl (by first | exact Or.inl rfl | exact Or.inr rfl) (by decide))) (mss_one (ms_if (mt_eq hu (me_var 7) me_str) (mss_one (ms_if (mt_not (mt_val (me_isiS G.isi rfl G.g_isinstance (ma_cons (me_var 4) (ma_cons (me_ty rfl G.g_bool (by decide +kernel)) ma_nil))))) (mss_one (ms_ret (me_var 7))) mss_nil)) (mss_one (ms_if (mt_w (mw_or (mt_not (mt_val (me_isiS G.isi rfl G.g_isinstance (ma_cons (me_var 8) (ma_cons (me_ty rfl G.g_tuple (by decide +kernel)) ma_nil))))) (mw_or (mt_ne hu (me_len rfl G.g_len (ma_cons (me_var 8) ma_nil)) me_int) (mw_or1 (mt_not (mt_val (me_og (ok_law_is_whole G) hr (by decide) hgd rfl (takes_of rfl rfl rfl rfl) (ma_cons (me_ix (me_var 8) me_int) (ma_cons (me_var 9) (ma_cons me_int ma_nil)))))))))) (mss_one (ms_ret (me_var 7))) (mss_one (ms_if (mt_not (mt_val (me_og (ok_law_is_whole G) hr (by decide) hgd rfl (takes_of rfl rfl rfl rfl) (ma_cons (me_ix (me_var 8) me_int) (ma_cons (me_subB (me_var 9) me_int) (ma_cons (me_subB (me_ix (me_var 8) me_int) (me_int1 rfl G.g_int (ma_cons (me_eq hu (me_var 7) me_str) ma_nil))) ma_nil)))))) (mss_one (ms_ret (me_var 7))) mss_nil)))))) (of_3 7 8 9)) (mss_cons (ms_if (mt_w (mw_or (mt_not (mt_val (me_isiS G.isi rfl G.g_isinstance (ma_cons (me_var 6) (ma_cons (me_ty rfl G.g_tuple (by decide +kernel)) ma_nil))))) (mw_or (mt_ne hu (me_len rfl G.g_len (ma_cons (me_var 6) ma_nil)) (me_len rfl G.g_len (ma_cons (me_var 1) ma_nil))) (mw_or1 (mt_ne hu (me_lc (own := [("_law_one", 10)]) (gf_name 10) rfl sc_law_wrong.nd (mi_any (me_var 1)) (blkOk_by (N := ["_law_fields", "_law_many_here", "_law_seats", "_law_quota", "_law_over", "_law_hand", "_law_order_here", "_law_word", "_law_pair", "_law_low", "_law_one"]) (sc := defScope s_law_wrong) (by decide +kernel)) (fun _ _ _ _ _ => (dg_name (i := 10) (js := [10]) sc_law_wrong.nd rfl (by first | exact Or.inl rfl | exact Or.inr rfl) (by decide))) (fun _ _ _ _ _ => (mts_one (mt_nin hu (me_var 10) (me_var 6)))) (fun _ _ _ _ _ => (me_var 10))) (me_lst ma_nil)))))) (mss_one (ms_ret me_str)) mss_nil) (mss_one (ms_ret me_non))))))
theorem giv_law_told (G : Gs tb P K mg base) (k : Nat) : GivesD P w K mg base (k + 1) "_law_told" s_law_told ["_law_call", "_law_one", "e"] 0 "_law_call" m_law_told := fun g cdv A outer s H E hr hgd cf cc th act => by
    have hu := hu_room hr
    exact (mss_cons (ms_try (mb := (b_law_told1 cf cc th)) G.exs rfl rfl sc_law_told.nd (takes_of rfl rfl rfl rfl) (fun W pn xe tk hp => (mss_one (ms_set (i := 1) sc_law_told.nd rfl (by first | exact Or.inl rfl | exact Or.inr rfl) (act _ _ _ _ _ tk)))) (.named rfl rfl rfl (by decide) G.k_BadRule (fun a oe C dd c pn hc hz hv => (mss_one (ms_ret (me_tup (ma_cons me_str (ma_cons (me_xf 2 G.attX hc hz hv) ma_nil)))))) (.named rfl rfl rfl (by decide) G.k_BadNames (fun a oe C dd c pn hc hz hv => (mss_one (ms_ret (me_tup (ma_cons me_str (ma_cons (me_repr hgd hu rfl G.g_repr (ma_cons (me_xf 2 G.attX hc hz hv) ma_nil)) ma_nil)))))) .nil))) (mss_one (ms_ret (me_tup (ma_cons (me_fld G.attO (me_var 1)) (ma_cons (me_fld G.attO (me_var 1)) (ma_cons (me_fld G.attO (me_var 1)) (ma_cons (me_fld G.attO (me_var 1)) (ma_cons (me_fld G.attO (me_var 1)) (ma_cons (me_fld G.attO (me_var 1)) ma_nil))))))))))
theorem ok_law_odd (G : Gs tb P K mg base) : OkG P w K mg base 2 "_law_odd" ["_law_m"] (spF ⟨K, mg, w⟩ c_law_odd) :=
  okF (k := 1) G.f_law_odd sc_law_odd (fun _ _ _ _ _ _ us hl => match us, hl with | [_], _ => rfl) fun f cdv A outer s H E hr hgd => by
    have hu := hu_room hr
    exact (mss_cons (ms_set (i := 1) sc_law_odd.nd rfl (by first | exact Or.inl rfl | exact Or.inr rfl) (me_lst (ma_cons me_non (ma_cons me_int (ma_cons me_int (ma_cons me_int (ma_cons me_int (ma_cons (me_neg me_int) (ma_cons me_int (ma_cons (me_neg me_int) (ma_cons me_bl (ma_cons me_bl (ma_cons me_str (ma_cons me_str (ma_cons me_str (ma_cons me_str (ma_cons me_str (ma_cons me_str (ma_cons (me_tup ma_nil) (ma_cons (me_tup (ma_cons (me_tup ma_nil) ma_nil)) (ma_cons (me_tup (ma_cons me_str (ma_cons me_int ma_nil))) ma_nil))))))))))))))))))))) (mss_cons (ms_set (i := 1) sc_law_odd.nd rfl (by first | exact Or.inl rfl | exact Or.inr rfl) (me_add (me_var 1) (me_lst (ma_cons (me_lst ma_nil) (ma_cons me_dct0 (ma_cons (me_pow me_int me_int) (ma_cons (me_tup (ma_cons me_str ma_nil)) (ma_cons (me_tup (ma_cons me_str (ma_cons me_str ma_nil))) (ma_cons me_str (ma_cons (me_tup (ma_cons me_non ma_nil)) (ma_cons (me_tup (ma_cons me_int ma_nil)) (ma_cons (me_tup (ma_cons me_str ma_nil)) (ma_cons (me_tup (ma_cons me_str (ma_cons me_str ma_nil))) ma_nil))))))))))))) (mss_one (ms_ret (me_ix (me_var 1) (me_og (ok_law_next G) hr (by decide) hgd rfl (takes_of rfl rfl rfl rfl) (ma_cons (me_var 0) (ma_cons me_int ma_nil))))))))
theorem okn_law_bent (G : Gs tb P K mg base) : ∀ k : Nat, OkG P w K mg base (3 + k) "_law_bent" ["_law_m", "_law_thing"] (spF ⟨K, mg, w⟩ (c_law_bent k))
  | 0 => okNo G.f_law_bent sc_law_bent (fun _ _ _ _ _ _ us hl => match us, hl with | [_, _], _ => rfl)
  | k + 1 => okF (k := 3 + k) G.f_law_bent sc_law_bent (fun _ _ _ _ _ _ us hl => match us, hl with | [_, _], _ => rfl) fun f cdv A outer s H E hr hgd => by
    have hu := hu_room hr
    have ih := okn_law_bent G k
    exact (mss_cons (ms_if (mt_w (mw_and (mt_val (me_isiS G.isi rfl G.g_isinstance (ma_cons (me_var 1) (ma_cons (me_ty rfl G.g_str (by decide +kernel)) ma_nil)))) (mw_and1 (mt_eq hu (me_og (ok_law_next G) hr (Nat.le_trans (by decide) (Nat.le_add_right _ _)) hgd rfl (takes_of rfl rfl rfl rfl) (ma_cons (me_var 0) (ma_cons me_int ma_nil))) me_int)))) (mss_one (ms_ret (me_ix (me_lst (ma_cons (me_add (me_var 1) me_str) (ma_cons (me_slice (me_var 1) (mo_some me_int) mo_none) (ma_cons (me_add (me_var 1) me_str) (ma_cons (me_add (me_var 1) me_str) (ma_cons (me_mul (me_var 1) me_int) (ma_cons (me_add (me_var 1) me_str) ma_nil))))))) (me_og (ok_law_next G) hr (Nat.le_trans (by decide) (Nat.le_add_right _ _)) hgd rfl (takes_of rfl rfl rfl rfl) (ma_cons (me_var 0) (ma_cons me_int ma_nil)))))) mss_nil) (mss_cons (ms_if (mt_w (mw_and (mt_val (me_isiS G.isi rfl G.g_isinstance (ma_cons (me_var 1) (ma_cons (me_ty rfl G.g_int (by decide +kernel)) ma_nil)))) (mw_and (mt_not (mt_val (me_isiS G.isi rfl G.g_isinstance (ma_cons (me_var 1) (ma_cons (me_ty rfl G.g_bool (by decide +kernel)) ma_nil))))) (mw_and1 (mt_eq hu (me_og (ok_law_next G) hr (Nat.le_trans (by decide) (Nat.le_add_right _ _)) hgd rfl (takes_of rfl rfl rfl rfl) (ma_cons (me_var 0) (ma_cons me_int ma_nil))) me_int))))) (mss_one (ms_ret (me_add (me_var 1) (me_ix (me_lst (ma_cons me_int (ma_cons (me_neg me_int) (ma_cons me_int (ma_cons (me_neg me_int) (ma_cons me_int (ma_cons (me_neg me_int) ma_nil))))))) (me_og (ok_law_next G) hr (Nat.le_trans (by decide) (Nat.le_add_right _ _)) hgd rfl (takes_of rfl rfl rfl rfl) (ma_cons (me_var 0) (ma_cons me_int ma_nil))))))) mss_nil) (mss_cons (ms_if (mt_w (mw_or (mt_not (mt_val (me_isiS G.isi rfl G.g_isinstance (ma_cons (me_var 1) (ma_cons (me_ty rfl G.g_tuple (by decide +kernel)) ma_nil))))) (mw_or (mt_eq hu (me_var 1) (me_tup ma_nil)) (mw_or1 (mt_eq hu (me_og (ok_law_next G) hr (Nat.le_trans (by decide) (Nat.le_add_right _ _)) hgd rfl (takes_of rfl rfl rfl rfl) (ma_cons (me_var 0) (ma_cons me_int ma_nil))) me_int))))) (mss_one (ms_ret (me_og (ok_law_odd G) hr (Nat.le_trans (by decide) (Nat.le_add_right _ _)) hgd rfl (takes_of rfl rfl rfl rfl) (ma_cons (me_var 0) ma_nil)))) mss_nil) (mss_cons (ms_par (i := 2) (j := 3) rfl sc_law_bent.nd rfl rfl (by decide) rfl rfl (ma_cons (me_og (ok_law_next G) hr (Nat.le_trans (by decide) (Nat.le_add_right _ _)) hgd rfl (takes_of rfl rfl rfl rfl) (ma_cons (me_var 0) (ma_cons (me_len rfl G.g_len (ma_cons (me_var 1) ma_nil)) ma_nil))) (ma_cons (me_og (ok_law_next G) hr (Nat.le_trans (by decide) (Nat.le_add_right _ _)) hgd rfl (takes_of rfl rfl rfl rfl) (ma_cons (me_var 0) (ma_cons me_int ma_nil))) ma_nil)) (by rfl)) (mss_cons (ms_if (mt_eq hu (me_var 3) me_int) (mss_one (ms_ret (me_add (me_slice (me_var 1) mo_none (mo_some (me_var 2))) (me_slice (me_var 1) (mo_some (me_add (me_var 2) me_int)) mo_none)))) mss_nil) (mss_cons (ms_if (mt_eq hu (me_var 3) me_int) (mss_one (ms_ret (me_add (me_var 1) (me_slice (me_var 1) (mo_some (me_var 2)) (mo_some (me_add (me_var 2) me_int)))))) mss_nil) (mss_cons (ms_if (mt_eq hu (me_var 3) me_int) (mss_one (ms_ret (me_list rfl G.g_list (ma_cons (me_var 1) ma_nil)))) mss_nil) (mss_cons (ms_if (mt_eq hu (me_var 3) me_int) (mss_one (ms_ret (me_add (me_add (me_slice (me_var 1) mo_none (mo_some (me_var 2))) (me_tup (ma_cons (me_og (ok_law_odd G) hr (Nat.le_trans (by decide) (Nat.le_add_right _ _)) hgd rfl (takes_of rfl rfl rfl rfl) (ma_cons (me_var 0) ma_nil)) ma_nil))) (me_slice (me_var 1) (mo_some (me_var 2)) mo_none)))) mss_nil) (mss_cons (ms_if (mt_eq hu (me_var 3) me_int) (mss_one (ms_ret (me_rev (me_var 1)))) mss_nil) (mss_one (ms_ret (me_add (me_add (me_slice (me_var 1) mo_none (mo_some (me_var 2))) (me_tup (ma_cons (me_og (ih) hr (Nat.le_refl _) hgd rfl (takes_of rfl rfl rfl rfl) (ma_cons (me_var 0) (ma_cons (me_ix (me_var 1) (me_var 2)) ma_nil))) ma_nil))) (me_slice (me_var 1) (mo_some (me_add (me_var 2) me_int)) mo_none)))))))))))))
theorem ok_law_bent (G : Gs tb P K mg base) : OkG P w K mg base 9 "_law_bent" ["_law_m", "_law_thing"] (spF ⟨K, mg, w⟩ (c_law_bent 6)) := okn_law_bent G 6
theorem ok_law_near (G : Gs tb P K mg base) : OkG P w K mg base 10 "_law_near" ["_law_m", "_law_fields", "_law_at"] (spF ⟨K, mg, w⟩ c_law_near) :=
  okF (k := 9) G.f_law_near sc_law_near (fun _ _ _ _ _ _ us hl => match us, hl with | [_, _, _], _ => rfl) fun f cdv A outer s H E hr hgd => by
    have hu := hu_room hr
    exact (mss_cons (ms_set (i := 3) sc_law_near.nd rfl (by first | exact Or.inl rfl | exact Or.inr rfl) (me_ix (me_lst (ma_cons (me_og (ok_law_odd G) hr (by decide) hgd rfl (takes_of rfl rfl rfl rfl) (ma_cons (me_var 0) ma_nil)) (ma_cons (me_og (ok_law_bent G) hr (by decide) hgd rfl (takes_of rfl rfl rfl rfl) (ma_cons (me_var 0) (ma_cons (me_ix (me_var 1) (me_var 2)) ma_nil))) (ma_cons (me_ix (me_lst (ma_cons me_int (ma_cons (me_tup (ma_cons me_int (ma_cons me_int ma_nil))) (ma_cons me_int (ma_cons (me_tup (ma_cons me_int (ma_cons me_int ma_nil))) (ma_cons (me_mul (me_slice (me_ix (me_var 1) me_int) mo_none (mo_some me_int)) me_int) ma_nil)))))) (me_subB (me_var 2) me_int)) ma_nil)))) (me_og (ok_law_next G) hr (by decide) hgd rfl (takes_of rfl rfl rfl rfl) (ma_cons (me_var 0) (ma_cons me_int ma_nil))))) (mss_one (ms_ret (me_add (me_add (me_slice (me_var 1) mo_none (mo_some (me_var 2))) (me_tup (ma_cons (me_var 3) ma_nil))) (me_slice (me_var 1) (mo_some (me_add (me_var 2) me_int)) mo_none)))))
theorem ok_law_equals_right (G : Gs tb P K mg base) : OkG P w K mg base 7 "_law_equals_right" ["_law_fields", "_law_far", "_law_one"] (spF ⟨K, mg, w⟩ c_law_equals_right) :=
  okF (k := 6) G.f_law_equals_right sc_law_equals_right (fun _ _ _ _ _ _ us hl => match us, hl with | [_, _, _], _ => rfl) fun f cdv A outer s H E hr hgd => by
    have hu := hu_room hr
    exact (mss_cons (ms_for (gf_name 3) (passes_of rfl) rfl (mi_range2 rfl G.g_range (ma_cons me_int (ma_cons me_int ma_nil))) (dg_name (i := 3) (js := [3]) sc_law_equals_right.nd rfl (by first | exact Or.inl rfl | exact Or.inr rfl) (by decide)) (mss_cons (ms_set (i := 4) sc_law_equals_right.nd rfl (by first | exact Or.inl rfl | exact Or.inr rfl) (me_add (me_add (me_slice (me_var 0) mo_none (mo_some (me_var 3))) (me_slice (me_var 1) (mo_some (me_var 3)) (mo_some (me_add (me_var 3) me_int)))) (me_slice (me_var 0) (mo_some (me_add (me_var 3) me_int)) mo_none))) (mss_one (ms_if (mt_ne hu (me_eqO (ok_Rule___eq__ G) hr (by decide) hgd G.nf_Rule (me_var 2) (me_mkP (ok_Rule___init__ G) hr (by decide) hgd rfl (takes_of rfl rfl rfl rfl) (ma_cons (me_ix (me_var 4) me_int) (ma_cons (me_ix (me_var 4) me_int) (ma_cons (me_ix (me_var 4) me_int) (ma_cons (me_ix (me_var 4) me_int) (ma_cons (me_ix (me_var 4) me_int) (ma_cons (me_ix (me_var 4) me_int) ma_nil)))))))) (me_eq hu (me_var 4) (me_var 0))) (mss_one (ms_ret me_bl)) mss_nil))) (of_name 3)) (mss_one (ms_ret me_bl)))
theorem ok_law_with_right (G : Gs tb P K mg base) : OkG P w K mg base 9 "_law_with_right" ["_law_one", "_law_near_here", "_law_at"] (spF ⟨K, mg, w⟩ (c_law_with_right tb)) :=
  okFT (k := 8) G.f_law_with_right G.tab_law_with_right sc_law_with_right (fun _ _ _ _ _ _ us hl => match us, hl with | [_, _, _], _ => rfl) fun f cd A outer s H E TB hr hgd => by
    have hu := hu_room hr
    exact (mss_cons (ms_set (i := 3) sc_law_with_right.nd rfl (by first | exact Or.inl rfl | exact Or.inr rfl) (me_og (ok_law_wrong G) hr (by decide) hgd rfl (takes_of rfl rfl rfl rfl) (ma_cons (me_var 1) ma_nil))) (mss_cons (ms_set (i := 4) sc_law_with_right.nd rfl (by first | exact Or.inl rfl | exact Or.inr rfl) (me_repr hgd hu rfl G.g_repr (ma_cons (me_if (mt_isN (me_var 3) me_non) (me_var 1) (me_tup (ma_cons me_str (ma_cons (me_var 3) ma_nil)))) ma_nil))) (mss_cons (ms_if (mt_eq hu (me_var 2) me_int) (mss_one (ms_ret (me_eq hu (me_repr hgd hu rfl G.g_repr (ma_cons (me_lam (k := 6) G.f_law_told sc_law_told (fun _ _ _ _ _ _ us hl => match us, hl with | [_], _ => rfl) (giv_law_told G 6) rfl TB rfl hr (by decide) hgd rfl (takes_of rfl rfl rfl rfl) (LamX.lamS_by (sc := defScope s_law_with_right) (by decide +kernel)) rfl (fun _ _ _ _ _ => rfl) (fun E A outer s H f c' hr hgd => by have hu := hu_room hr; exact (me_meth (ok_Rule_with_seats G) hr (by decide) hgd (takes_of rfl rfl rfl rfl) (me_var 0) (ma_cons (me_ix (me_var 1) me_int) ma_nil))) rfl (Or.inl rfl)) ma_nil)) (me_var 4)))) mss_nil) (mss_cons (ms_if (mt_lt hu (me_var 2) me_int) (mss_one (ms_ret (me_eq hu (me_repr hgd hu rfl G.g_repr (ma_cons (me_lam (k := 6) G.f_law_told sc_law_told (fun _ _ _ _ _ _ us hl => match us, hl with | [_], _ => rfl) (giv_law_told G 6) rfl TB rfl hr (by decide) hgd rfl (takes_of rfl rfl rfl rfl) (LamX.lamS_by (sc := defScope s_law_with_right) (by decide +kernel)) rfl (fun _ _ _ _ _ => rfl) (fun E A outer s H f c' hr hgd => by have hu := hu_room hr; exact (me_meth (ok_Rule_with_quota G) hr (by decide) hgd (takes_of rfl rfl rfl rfl) (me_var 0) (ma_cons (me_ix (me_var 1) me_int) (ma_cons (me_ix (me_var 1) me_int) ma_nil)))) rfl (Or.inl rfl)) ma_nil)) (me_var 4)))) mss_nil) (mss_cons (ms_if (mt_eq hu (me_var 2) me_int) (mss_one (ms_ret (me_eq hu (me_repr hgd hu rfl G.g_repr (ma_cons (me_lam (k := 6) G.f_law_told sc_law_told (fun _ _ _ _ _ _ us hl => match us, hl with | [_], _ => rfl) (giv_law_told G 6) rfl TB rfl hr (by decide) hgd rfl (takes_of rfl rfl rfl rfl) (LamX.lamS_by (sc := defScope s_law_with_right) (by decide +kernel)) rfl (fun _ _ _ _ _ => rfl) (fun E A outer s H f c' hr hgd => by have hu := hu_room hr; exact (me_meth (ok_Rule_with_hand G) hr (by decide) hgd (takes_of rfl rfl rfl rfl) (me_var 0) (ma_cons (me_ix (me_var 1) me_int) ma_nil))) rfl (Or.inl rfl)) ma_nil)) (me_var 4)))) mss_nil) (mss_one (ms_ret (me_eq hu (me_repr hgd hu rfl G.g_repr (ma_cons (me_lam (k := 6) G.f_law_told sc_law_told (fun _ _ _ _ _ _ us hl => match us, hl with | [_], _ => rfl) (giv_law_told G 6) rfl TB rfl hr (by decide) hgd rfl (takes_of rfl rfl rfl rfl) (LamX.lamS_by (sc := defScope s_law_with_right) (by decide +kernel)) rfl (fun _ _ _ _ _ => rfl) (fun E A outer s H f c' hr hgd => by have hu := hu_room hr; exact (me_meth (ok_Rule_with_order G) hr (by decide) hgd (takes_of rfl rfl rfl rfl) (me_var 0) (ma_cons (me_ix (me_var 1) me_int) ma_nil))) rfl (Or.inl rfl)) ma_nil)) (me_var 4)))))))))
theorem fg_law (G : Gs tb P K mg base) {f : Addr} {fd : FuncData} (hm : mg "law" = some (.ref f)) (F : Fun K "law" "law" s_law f fd) : FnG P w K mg base (L2.CX P w) 11 f fd ["_law_script"] (spL ⟨K, mg, w⟩ (spF ⟨K, mg, w⟩ (c_law tb))) :=
  fn_gdC (k := 10) F sc_law (fun R ds Q E h => spF_len h) fun cdv A outer s H E hcd hr hgd => by
    obtain ⟨cd, rfl, TB⟩ := G.tab_law f cdv hm hcd
    refine ⟨cpsS ⟨K, mg, w⟩ (m_law tb), ?_, fun R ds Q E h => vcF R ds Q E h⟩
    have hu := hu_room hr
    exact (mss_cons (ms_set (i := 1) sc_law.nd rfl (by first | exact Or.inl rfl | exact Or.inr rfl) (me_og (ok_law_begun G) hr (by decide) hgd rfl (takes_of rfl rfl rfl rfl) (ma_cons (me_var 0) ma_nil))) (mss_cons (ms_for (gf_name 2) (passes_of rfl) rfl (mi_range1 rfl G.g_range (ma_cons (me_add me_int (me_min2 rfl rfl G.g_min (ma_cons (me_len rfl G.g_len (ma_cons (me_var 0) ma_nil)) (ma_cons me_int ma_nil)))) ma_nil)) (dg_name (i := 2) (js := [2]) sc_law.nd rfl (by first | exact Or.inl rfl | exact Or.inr rfl) (by decide)) (mss_cons (ms_set (i := 3) sc_law.nd rfl (by first | exact Or.inl rfl | exact Or.inr rfl) (me_og (ok_law_many G) hr (by decide) hgd rfl (takes_of rfl rfl rfl rfl) (ma_cons (me_var 1) (ma_cons me_int ma_nil)))) (mss_cons (ms_asg (gf_2 4 5) (me_tup (ma_cons (me_og (ok_law_rule G) hr (by decide) hgd rfl (takes_of rfl rfl rfl rfl) (ma_cons (me_var 1) (ma_cons (me_var 3) ma_nil))) (ma_cons (me_og (ok_law_rule G) hr (by decide) hgd rfl (takes_of rfl rfl rfl rfl) (ma_cons (me_var 1) (ma_cons (me_var 3) ma_nil))) ma_nil))) (dg_2 rfl (dg_name (i := 4) (js := [4, 5]) sc_law.nd rfl (by first | exact Or.inl rfl | exact Or.inr rfl) (by decide)) (dg_name (i := 5) (js := [4, 5]) sc_law.nd rfl (by first | exact Or.inl rfl | exact Or.inr rfl) (by decide))) (of_2 4 5)) (mss_cons (ms_set (i := 6) sc_law.nd rfl (by first | exact Or.inl rfl | exact Or.inr rfl) (me_mkP (ok_Rule___init__ G) hr (by decide) hgd rfl (takes_of rfl rfl rfl rfl) (ma_cons (me_ix (me_var 4) me_int) (ma_cons (me_ix (me_var 4) me_int) (ma_cons (me_ix (me_var 4) me_int) (ma_cons (me_ix (me_var 4) me_int) (ma_cons (me_ix (me_var 4) me_int) (ma_cons (me_ix (me_var 4) me_int) ma_nil)))))))) (mss_cons (ms_set (i := 7) sc_law.nd rfl (by first | exact Or.inl rfl | exact Or.inr rfl) (me_mkP (ok_Rule___init__ G) hr (by decide) hgd rfl (takes_of rfl rfl rfl rfl) (ma_cons (me_ix (me_var 5) me_int) (ma_cons (me_ix (me_var 5) me_int) (ma_cons (me_ix (me_var 5) me_int) (ma_cons (me_ix (me_var 5) me_int) (ma_cons (me_ix (me_var 5) me_int) (ma_cons (me_ix (me_var 5) me_int) ma_nil)))))))) (mss_cons (ms_if (mt_w (mw_or (mt_ne hu (me_lam (k := 0) G.f_law_told sc_law_told (fun _ _ _ _ _ _ us hl => match us, hl with | [_], _ => rfl) (giv_law_told G 0) rfl TB rfl hr (by decide) hgd rfl (takes_of rfl rfl rfl rfl) (LamX.lamS_by (sc := defScope s_law) (by decide +kernel)) rfl (fun _ _ _ _ _ => rfl) (fun E A outer s H f c' hr hgd => by have hu := hu_room hr; exact (me_var 6)) rfl (Or.inl rfl)) (me_var 4)) (mw_or (mt_ne hu (me_eqO (ok_Rule___eq__ G) hr (by decide) hgd G.nf_Rule (me_var 6) (me_var 7)) (me_eq hu (me_var 4) (me_var 5))) (mw_or1 (mt_ne hu (me_og (ok_units G) hr (by decide) hgd rfl (takes_of rfl rfl rfl rfl) (ma_cons (me_var 6) ma_nil)) (me_og (ok_law_units G) hr (by decide) hgd rfl (takes_of rfl rfl rfl rfl) (ma_cons (me_var 4) ma_nil))))))) (mss_one (ms_ret me_bl)) mss_nil) (mss_cons (ms_if (mt_not (mt_val (me_og (ok_law_equals_right G) hr (by decide) hgd rfl (takes_of rfl rfl rfl rfl) (ma_cons (me_var 4) (ma_cons (me_var 5) (ma_cons (me_var 6) ma_nil)))))) (mss_one (ms_ret me_bl)) mss_nil) (mss_cons (ms_set (i := 8) sc_law.nd rfl (by first | exact Or.inl rfl | exact Or.inr rfl) (me_lst (ma_cons (me_lam (k := 6) G.f_law_told sc_law_told (fun _ _ _ _ _ _ us hl => match us, hl with | [_], _ => rfl) (giv_law_told G 6) rfl TB rfl hr (by decide) hgd rfl (takes_of rfl rfl rfl rfl) (LamX.lamS_by (sc := defScope s_law) (by decide +kernel)) rfl (fun _ _ _ _ _ => rfl) (fun E A outer s H f c' hr hgd => by have hu := hu_room hr; exact (me_meth (ok_Rule_with_seats G) hr (by decide) hgd (takes_of rfl rfl rfl rfl) (me_var 6) (ma_cons (me_ix (me_var 5) me_int) ma_nil))) rfl (Or.inl rfl)) (ma_cons (me_lamD (b := "_law_x") (k := 6) G.f_law_told sc_law_told (fun _ _ _ _ _ _ us hl => match us, hl with | [_], _ => rfl) (giv_law_told G 6) rfl TB rfl hr (by decide) hgd rfl (takes_of rfl rfl rfl rfl) (lamP_by (N := ["_law_script", "_law_m", "_law_turn", "_law_many_here", "_law_fields", "_law_far", "_law_one", "_law_other", "_law_told_here", "_law_due", "_law_at", "_law_near_here", "_law_k", "_law_wrong_here", "_law_odd_here"]) (sc := defScope s_law) (by decide +kernel)) rfl (fun _ _ _ _ _ _ _ => ⟨_, rfl, fun _ => rfl⟩) (fun E A outer s H f c' hr hgd => by have hu := hu_room hr; exact (me_meth (ok_Rule_with_quota G) hr (by decide) hgd (takes_of rfl rfl rfl rfl) (me_var 6) (ma_cons (me_ix (me_var 5) me_int) (ma_cons (me_ix (me_var 5) me_int) ma_nil)))) rfl (Or.inl rfl)) ma_nil)))) (mss_cons (ms_set (i := 8) sc_law.nd rfl (by first | exact Or.inl rfl | exact Or.inr rfl) (me_add (me_var 8) (me_lst (ma_cons (me_lam (k := 6) G.f_law_told sc_law_told (fun _ _ _ _ _ _ us hl => match us, hl with | [_], _ => rfl) (giv_law_told G 6) rfl TB rfl hr (by decide) hgd rfl (takes_of rfl rfl rfl rfl) (LamX.lamS_by (sc := defScope s_law) (by decide +kernel)) rfl (fun _ _ _ _ _ => rfl) (fun E A outer s H f c' hr hgd => by have hu := hu_room hr; exact (me_meth (ok_Rule_with_hand G) hr (by decide) hgd (takes_of rfl rfl rfl rfl) (me_var 6) (ma_cons (me_ix (me_var 5) me_int) ma_nil))) rfl (Or.inl rfl)) (ma_cons (me_lamD (b := "_law_x") (k := 6) G.f_law_told sc_law_told (fun _ _ _ _ _ _ us hl => match us, hl with | [_], _ => rfl) (giv_law_told G 6) rfl TB rfl hr (by decide) hgd rfl (takes_of rfl rfl rfl rfl) (lamP_by (N := ["_law_script", "_law_m", "_law_turn", "_law_many_here", "_law_fields", "_law_far", "_law_one", "_law_other", "_law_told_here", "_law_due", "_law_at", "_law_near_here", "_law_k", "_law_wrong_here", "_law_odd_here"]) (sc := defScope s_law) (by decide +kernel)) rfl (fun _ _ _ _ _ _ _ => ⟨_, rfl, fun _ => rfl⟩) (fun E A outer s H f c' hr hgd => by have hu := hu_room hr; exact (me_meth (ok_Rule_with_order G) hr (by decide) hgd (takes_of rfl rfl rfl rfl) (me_var 6) (ma_cons (me_ix (me_var 5) me_int) ma_nil))) rfl (Or.inl rfl)) ma_nil))))) (mss_cons (ms_set (i := 9) sc_law.nd rfl (by first | exact Or.inl rfl | exact Or.inr rfl) (me_lst (ma_cons (me_add (me_add (me_slice (me_var 4) mo_none (mo_some me_int)) (me_slice (me_var 5) (mo_some me_int) (mo_some me_int))) (me_slice (me_var 4) (mo_some me_int) mo_none)) (ma_cons (me_add (me_add (me_slice (me_var 4) mo_none (mo_some me_int)) (me_slice (me_var 5) (mo_some me_int) (mo_some me_int))) (me_slice (me_var 4) (mo_some me_int) mo_none)) ma_nil)))) (mss_cons (ms_if (mt_ne hu (me_var 8) (me_add (me_var 9) (me_lst (ma_cons (me_add (me_add (me_slice (me_var 4) mo_none (mo_some me_int)) (me_slice (me_var 5) (mo_some me_int) (mo_some me_int))) (me_slice (me_var 4) (mo_some me_int) mo_none)) (ma_cons (me_add (me_slice (me_var 4) mo_none (mo_some me_int)) (me_slice (me_var 5) (mo_some me_int) mo_none)) ma_nil))))) (mss_one (ms_ret me_bl)) mss_nil) (mss_cons (ms_for (gf_name 10) (passes_of rfl) rfl (mi_range2 rfl G.g_range (ma_cons me_int (ma_cons me_int ma_nil))) (dg_name (i := 10) (js := [10]) sc_law.nd rfl (by first | exact Or.inl rfl | exact Or.inr rfl) (by decide)) (mss_cons (ms_set (i := 11) sc_law.nd rfl (by first | exact Or.inl rfl | exact Or.inr rfl) (me_og (ok_law_near G) hr (by decide) hgd rfl (takes_of rfl rfl rfl rfl) (ma_cons (me_var 1) (ma_cons (me_var 4) (ma_cons (me_var 10) ma_nil))))) (mss_one (ms_if (mt_not (mt_val (me_og (ok_law_with_right G) hr (by decide) hgd rfl (takes_of rfl rfl rfl rfl) (ma_cons (me_var 6) (ma_cons (me_var 11) (ma_cons (me_var 10) ma_nil)))))) (mss_one (ms_ret me_bl)) mss_nil))) (of_name 10)) (mss_cons (ms_for (gf_name 12) (passes_of rfl) rfl (mi_range1 rfl G.g_range (ma_cons me_int ma_nil)) (dg_name (i := 12) (js := [12]) sc_law.nd rfl (by first | exact Or.inl rfl | exact Or.inr rfl) (by decide)) (mss_cons (ms_set (i := 11) sc_law.nd rfl (by first | exact Or.inl rfl | exact Or.inr rfl) (me_og (ok_law_near G) hr (by decide) hgd rfl (takes_of rfl rfl rfl rfl) (ma_cons (me_var 1) (ma_cons (me_var 4) (ma_cons (me_add me_int (me_og (ok_law_next G) hr (by decide) hgd rfl (takes_of rfl rfl rfl rfl) (ma_cons (me_var 1) (ma_cons me_int ma_nil)))) ma_nil))))) (mss_cons (ms_set (i := 11) sc_law.nd rfl (by first | exact Or.inl rfl | exact Or.inr rfl) (me_if (mt_eq hu (me_og (ok_law_next G) hr (by decide) hgd rfl (takes_of rfl rfl rfl rfl) (ma_cons (me_var 1) (ma_cons me_int ma_nil))) me_int) (me_og (ok_law_near G) hr (by decide) hgd rfl (takes_of rfl rfl rfl rfl) (ma_cons (me_var 1) (ma_cons (me_var 11) (ma_cons (me_add me_int (me_og (ok_law_next G) hr (by decide) hgd rfl (takes_of rfl rfl rfl rfl) (ma_cons (me_var 1) (ma_cons me_int ma_nil)))) ma_nil)))) (me_var 11))) (mss_cons (ms_set (i := 13) sc_law.nd rfl (by first | exact Or.inl rfl | exact Or.inr rfl) (me_og (ok_law_wrong G) hr (by decide) hgd rfl (takes_of rfl rfl rfl rfl) (ma_cons (me_var 11) ma_nil))) (mss_cons (ms_set (i := 9) sc_law.nd rfl (by first | exact Or.inl rfl | exact Or.inr rfl) (me_repr hgd hu rfl G.g_repr (ma_cons (me_if (mt_isN (me_var 13) me_non) (me_var 11) (me_tup (ma_cons me_str (ma_cons (me_var 13) ma_nil)))) ma_nil))) (mss_one (ms_if (mt_ne hu (me_repr hgd hu rfl G.g_repr (ma_cons (me_lam (k := 5) G.f_law_told sc_law_told (fun _ _ _ _ _ _ us hl => match us, hl with | [_], _ => rfl) (giv_law_told G 5) rfl TB rfl hr (by decide) hgd rfl (takes_of rfl rfl rfl rfl) (LamX.lamS_by (sc := defScope s_law) (by decide +kernel)) rfl (fun _ _ _ _ _ => rfl) (fun E A outer s H f c' hr hgd => by have hu := hu_room hr; exact (me_mkP (ok_Rule___init__ G) hr (by decide) hgd rfl (takes_of rfl rfl rfl rfl) (ma_cons (me_ix (me_var 11) me_int) (ma_cons (me_ix (me_var 11) me_int) (ma_cons (me_ix (me_var 11) me_int) (ma_cons (me_ix (me_var 11) me_int) (ma_cons (me_ix (me_var 11) me_int) (ma_cons (me_ix (me_var 11) me_int) ma_nil)))))))) rfl (Or.inl rfl)) ma_nil)) (me_var 9)) (mss_one (ms_ret me_bl)) mss_nil)))))) (of_name 12)) (mss_cons (ms_set (i := 14) sc_law.nd rfl (by first | exact Or.inl rfl | exact Or.inr rfl) (me_ix (me_lst (ma_cons me_non (ma_cons (me_tup ma_nil) (ma_cons (me_rev (me_var 3)) (ma_cons (me_list rfl G.g_list (ma_cons (me_var 3) ma_nil)) (ma_cons me_str (ma_cons (me_slice (me_var 3) mo_none (mo_some me_int)) ma_nil))))))) (me_og (ok_law_next G) hr (by decide) hgd rfl (takes_of rfl rfl rfl rfl) (ma_cons (me_var 1) (ma_cons me_int ma_nil))))) (mss_one (ms_if (mt_w (mw_or (mt_ne hu (me_lam (k := 5) G.f_law_told sc_law_told (fun _ _ _ _ _ _ us hl => match us, hl with | [_], _ => rfl) (giv_law_told G 5) rfl TB rfl hr (by decide) hgd rfl (takes_of rfl rfl rfl rfl) (LamX.lamS_by (sc := defScope s_law) (by decide +kernel)) rfl (fun _ _ _ _ _ => rfl) (fun E A outer s H f c' hr hgd => by have hu := hu_room hr; exact (me_mkP (ok_Rule___init__ G) hr (by decide) hgd rfl (takes_of rfl rfl rfl rfl) (ma_cons (me_var 14) (ma_cons me_int (ma_cons me_int (ma_cons me_int (ma_cons me_int (ma_cons me_int ma_nil)))))))) rfl (Or.inl rfl)) (me_tup (ma_cons me_str (ma_cons (me_repr hgd hu rfl G.g_repr (ma_cons (me_var 14) ma_nil)) ma_nil)))) (mw_or1 (mt_eqO (ok_Rule___eq__ G) hr (by decide) hgd G.nf_Rule (me_var 6) (me_var 4))))) (mss_one (ms_ret me_bl)) mss_nil))))))))))))))) (of_name 2)) (mss_one (ms_ret me_bl))))
end Kk04

set_option Elab.async false
set_option linter.all false
set_option maxRecDepth 100000
set_option maxHeartbeats 1000000
namespace DL
open PySem L2 PySem.Spec PyProof.Rows
/-! ### the tables, asked of the head -/
section
variable {mf : Str} {fa : List (Fg → Bool)} {fn : List He.FnD} {xn : List XnD} {K : Fg} {h : Heap} {mg : Str → Option Value}
def knB (K : Fg) (x : Str) : Bool := (PySem.W.nsIn K mainGlobals x).isSome
def prB (K : Fg) (x : Str) : Bool := match PySem.W.nsIn K mainGlobals x with
  | some (some (.ref _)) => true
  | _ => false
/-- if the class is there, then .. -/
def ifB (K : Fg) (x : Str) (b : Bool) : Bool := knB K x && (!prB K x || b)
theorem ifB_ok (X : K.In h) (G : h.Ns mainGlobals mg) {x : Str} {b : Bool} {C : Addr} (e : ifB K x b = true) (hm : mg x = some (.ref C)) : b = true ∧ C = He.ga K x := by
  obtain ⟨e1, e2⟩ := He.ba e
  unfold knB at e1
  unfold prB at e2
  unfold He.ga
  cases q : PySem.W.nsIn K mainGlobals x with
  | none => rw [q] at e1; cases e1
  | some o =>
    rw [q] at e2
    cases o with
    | none => rw [PySem.W.mg_none_of X G q] at hm; cases hm
    | some v =>
      have := PySem.W.mg_of X G q
      rw [hm] at this
      cases this
      refine ⟨?_, rfl⟩
      simpa using e2
def clsAll : List Str := ["Rule", "Roll", "Count", "Walk", "Sheet", "Asking", "Tally", "Trial"]
theorem attO_in {c n : Str} (e : attO c n = true) : c ∈ clsAll := by
  unfold attO fieldsOf at e
  by_cases h1 : (c == "Rule") = true
  · rw [beq_iff_eq.mp h1]; decide
  · rw [if_neg h1] at e
    by_cases h2 : (c == "Roll") = true
    · rw [beq_iff_eq.mp h2]; decide
    · rw [if_neg h2] at e
      by_cases h3 : (c == "Count") = true
      · rw [beq_iff_eq.mp h3]; decide
      · rw [if_neg h3] at e
        by_cases h4 : (c == "Walk") = true
        · rw [beq_iff_eq.mp h4]; decide
        · rw [if_neg h4] at e
          by_cases h5 : (c == "Sheet") = true
          · rw [beq_iff_eq.mp h5]; decide
          · rw [if_neg h5] at e
            by_cases h6 : (c == "Asking") = true
            · rw [beq_iff_eq.mp h6]; decide
            · rw [if_neg h6] at e
              by_cases h7 : (c == "Tally") = true
              · rw [beq_iff_eq.mp h7]; decide
              · rw [if_neg h7] at e
                by_cases h8 : (c == "Trial") = true
                · rw [beq_iff_eq.mp h8]; decide
                · rw [if_neg h8] at e; cases e
def attOB (K : Fg) : Bool := clsAll.all fun c => ifB K c ((He.Fa.cls c).ok K && (fieldsOf c).all fun n => (He.Fa.noat c n).ok K)
theorem cls_ok {x : Str} (e : (He.Fa.cls x).ok K = true) : Cls K (He.ga K x) := by
  obtain ⟨e1, e⟩ := He.ba e
  obtain ⟨e2, e⟩ := He.ba e
  obtain ⟨e3, e4⟩ := He.ba e
  exact ⟨e1, e2, e3, He.eqO_ok e4⟩
theorem attOB_ok (X : K.In h) (G : h.Ns mainGlobals mg) (e : attOB K = true) : AttO K mg attO := by
  intro c n C hc hm
  have := List.all_eq_true.mp e c (attO_in hc)
  obtain ⟨b, rfl⟩ := ifB_ok X G this hm
  obtain ⟨b1, b2⟩ := He.ba b
  have hn : n ∈ fieldsOf c := by simpa [attO] using hc
  exact ⟨cls_ok b1, He.eqO_ok (List.all_eq_true.mp b2 n hn)⟩
def attXB (K : Fg) : Bool := (exNames.zip exFields).all fun p => ifB K p.1 (xfB K (He.ga K p.1) && (He.Fa.noat p.1 p.2).ok K)
theorem attXB_ok (X : K.In h) (G : h.Ns mainGlobals mg) (e : attXB K = true) : AttX K mg attX := by
  intro c n C hc hm
  have hn : (c, n) ∈ exNames.zip exFields := by simpa [attX] using hc
  have := List.all_eq_true.mp e (c, n) hn
  obtain ⟨b, rfl⟩ := ifB_ok X G this hm
  obtain ⟨b1, b2⟩ := He.ba b
  exact ⟨xfB_ok b1, He.eqO_ok b2⟩
def exsB (K : Fg) : Bool := exNames.all fun c => ((("VoteError" : Str) :: exNames)).all fun x => ifB K c (ifB K x (match exS c x with
  | some b => decide (PySem.W.exmOne K (.ref (He.ga K c)) (.ref (He.ga K x)) = some b)
  | none => true))
theorem exsB_ok (X : K.In h) (G : h.Ns mainGlobals mg) (e : exsB K = true) : ExK K mg exS := by
  intro c x b hs C D hc hx
  have h1 : c ∈ exNames ∧ x ∈ (("VoteError" : Str) :: exNames) := by
    unfold exS at hs
    split at hs
    · rename_i h1
      refine ⟨by simpa using h1, ?_⟩
      split at hs
      · rename_i h2; exact List.mem_cons_of_mem _ (by simpa using h2)
      · split at hs
        · rename_i h3; rw [beq_iff_eq.mp h3]; exact List.mem_cons_self ..
        · cases hs
    · cases hs
  have e1 := List.all_eq_true.mp (List.all_eq_true.mp e c h1.1) x h1.2
  obtain ⟨e2, rfl⟩ := ifB_ok X G e1 hc
  obtain ⟨e3, rfl⟩ := ifB_ok X G e2 hx
  rw [hs] at e3
  exact of_decide_eq_true e3
def insB (K : Fg) (x : Str) : Bool := (He.Fa.cls x).ok K && (He.eqO (PySem.W.findIn K (.ref (He.ga K x)) "__class__") (some (some (.builtin "object.__class__"))) && (He.eqO (PySem.W.specialIn K (.builtin "object.__class__") "__get__") (some (some (.builtin "getset_descriptor.__get__"))) && (decide (PySem.W.takesIn K (.builtin "object.__class__") = some true) && decide (PySem.W.mroIn K (He.ga K x) (.type "object") = some true))))
theorem insB_ok {x : Str} (e : insB K x = true) : InsK K (He.ga K x) := by
  obtain ⟨e1, e⟩ := He.ba e
  obtain ⟨e2, e⟩ := He.ba e
  obtain ⟨e3, e⟩ := He.ba e
  obtain ⟨e4, e5⟩ := He.ba e
  exact ⟨cls_ok e1, He.eqO_ok e2, He.eqO_ok e3, of_decide_eq_true e4, of_decide_eq_true e5⟩
def tyN1 : List String := ["bool", "int", "str", "tuple", "list", "dict"]
def isi1 (K : Fg) : Bool := tyNames.all fun t => (tyN1.all fun T => decide (PySem.W.kitOne K (.type t) (.type T) = some (isiB t T))) && clNames.all fun c => ifB K c (decide (PySem.W.kitOne K (.type t) (.ref (He.ga K c)) = some false))
def isi2 (K : Fg) : Bool := clNames.all fun x => ifB K x (insB K x && ((tyN1.all fun T => decide (PySem.W.kitOne K (.ref (He.ga K x)) (.type T) = some false)) && clNames.all fun c => ifB K c (decide (PySem.W.kitOne K (.ref (He.ga K x)) (.ref (He.ga K c)) = some (x == c)))))
theorem tyN1_of {T : String} (h1 : tyNames.contains T = true) (h2 : (T != "NoneType") = true) : T ∈ tyN1 := by
  have : T ∈ tyNames := by simpa using h1
  have h3 : T ≠ "NoneType" := by simpa using h2
  unfold tyNames at this
  rcases List.mem_cons.mp this with e | e
  · exact absurd e h3
  · exact e
theorem isiB_ok (X : K.In h) (G : h.Ns mainGlobals mg) (e1 : isi1 K = true) (e2 : isi2 K = true) : IsiK K mg isiS := by
  intro g k b hs
  cases g with
  | inl t =>
    cases k with
    | ty T =>
      unfold isiS at hs
      dsimp only at hs
      split at hs
      · rename_i hc
        cases hs
        obtain ⟨hc, h3⟩ := He.ba hc
        obtain ⟨h1, h2⟩ := He.ba hc
        refine ⟨rfl, fun u hu => ?_⟩
        have hu' : u = .type T := hu
        subst hu'
        have e := List.all_eq_true.mp e1 t (by simpa using h1)
        exact of_decide_eq_true (List.all_eq_true.mp (He.ba e).1 T (tyN1_of h2 h3))
      · cases hs
    | cls c =>
      unfold isiS at hs
      dsimp only at hs
      split at hs
      · rename_i hc
        cases hs
        obtain ⟨h1, h2⟩ := He.ba hc
        refine ⟨rfl, fun u hu => ?_⟩
        obtain ⟨hm, C, rfl⟩ := (hu : mg c = some u ∧ ∃ C, u = .ref C)
        have e := List.all_eq_true.mp e1 t (by simpa using h1)
        have e := List.all_eq_true.mp (He.ba e).2 c (by simpa using h2)
        obtain ⟨e, rfl⟩ := ifB_ok X G e hm
        exact of_decide_eq_true e
      · cases hs
    | _ => cases hs
  | inr x =>
    cases k with
    | ty T =>
      unfold isiS at hs
      dsimp only at hs
      split at hs
      · rename_i hc
        cases hs
        obtain ⟨hc, h3⟩ := He.ba hc
        obtain ⟨h1, h2⟩ := He.ba hc
        refine ⟨rfl, fun u hu => ?_⟩
        have hu' : u = .type T := hu
        subst hu'
        intro C hC
        have e := List.all_eq_true.mp e2 x (by simpa using h1)
        obtain ⟨e, rfl⟩ := ifB_ok X G e hC
        obtain ⟨e3, e4⟩ := He.ba e
        exact ⟨insB_ok e3, of_decide_eq_true (List.all_eq_true.mp (He.ba e4).1 T (tyN1_of h2 h3))⟩
      · cases hs
    | cls c =>
      unfold isiS at hs
      dsimp only at hs
      split at hs
      · rename_i hc
        cases hs
        obtain ⟨h1, h2⟩ := He.ba hc
        refine ⟨rfl, fun u hu => ?_⟩
        obtain ⟨hm, C', rfl⟩ := (hu : mg c = some u ∧ ∃ C, u = .ref C)
        intro C hC
        have e := List.all_eq_true.mp e2 x (by simpa using h1)
        obtain ⟨e, rfl⟩ := ifB_ok X G e hC
        obtain ⟨e3, e4⟩ := He.ba e
        have e5 := List.all_eq_true.mp (He.ba e4).2 c (by simpa using h2)
        obtain ⟨e6, rfl⟩ := ifB_ok X G e5 hm
        exact ⟨insB_ok e3, of_decide_eq_true e6⟩
      · cases hs
    | _ => cases hs
theorem SaysX.mkAt (c : SaysX mf fa fn xn K h) (G : h.Ns mainGlobals mg) {x q : Str} {st : Stmt} (i j : Nat) (hi : fn[i]? = some ⟨(x, some "__init__"), "__init__", q, defArgs st, defBody st, defScope st⟩)
    (hj : fa[j]? = some fun K => (He.Fa.glo x).ok K && ((He.Fa.mkr x).ok K && PySem.W.keepIn K (.ref (He.ma K (He.ga K x) "__init__")))) : MkAt K mg x q st := by
  obtain ⟨oc, od, osl, kV, doc, pm, an, cdv, ct, e1, e2⟩ := c.def_ i hi
  obtain ⟨k1, k2⟩ := He.ba (c.fact j hj)
  obtain ⟨k3, k4⟩ := He.ba k2
  obtain ⟨m1, m⟩ := He.ba k3
  obtain ⟨m2, m⟩ := He.ba m
  obtain ⟨m3, m4⟩ := He.ba m
  exact ⟨_, _, _, He.glo_ok c.kin G k1, ⟨m1, He.eqO_ok m2, m3, m4⟩, ⟨oc, od, kV, doc, pm, an, cdv, ct, osl, rfl, e1, e2⟩, k4⟩
end
end DL

set_option Elab.async false
set_option linter.all false
set_option maxRecDepth 100000
set_option maxHeartbeats 1000000
namespace DL
open PySem L2 PySem.Spec PyProof.Rows
/-! ### a law's end, with tables of code objects -/
def HT (a : Addr) (u : Option HO) (o : Obj) (Ps : List Addr) : Hp := fun b => if b = sysModules then some (sysO o) else if b = a then u else if b ∈ Ps then some (.tbl #[]) else none
section
variable {a b : Addr} {u : Option HO} {o : Obj} {Ps : List Addr}
theorem HT_sys : HT a u o Ps sysModules = some (sysO o) := if_pos rfl
theorem HT_a (h : a ≠ sysModules) : HT a u o Ps a = u := by unfold HT; rw [if_neg h, if_pos rfl]
theorem HT_tab (h1 : b ≠ sysModules) (h2 : b ≠ a) (h3 : b ∈ Ps) : HT a u o Ps b = some (.tbl #[]) := by unfold HT; rw [if_neg h1, if_neg h2, if_pos h3]
theorem HT_none (h1 : b ≠ sysModules) (h2 : b ≠ a) (h3 : b ∉ Ps) : HT a u o Ps b = none := by unfold HT; rw [if_neg h1, if_neg h2, if_neg h3]
end
/-- the tables of the state -/
def tabOb (tq : List (Addr × Str)) : List (Addr × D) := tq.map fun p => (p.1, .own (.str p.2))
def onTabs (Ps : List Addr) : Hp := fun b => if b ∈ Ps then some (.tbl #[]) else none
theorem tabs_ok {M : Md} {B : Hp} : ∀ {tq : List (Addr × Str)}, (tq.map (·.1)).Nodup → (obsR M (tabOb tq)).ok B (onTabs (tq.map (·.1)))
  | [], _ => trivial
  | (P, q) :: r, h => by
    rw [List.map_cons] at h
    obtain ⟨h1, h2⟩ := List.nodup_cons.mp h
    refine ⟨onTabs [P], onTabs (r.map (·.1)), fun b o e => ?_, fun b o e => ?_, fun b => ?_, ⟨#[], if_pos (List.mem_singleton.mpr rfl), trivial, fun pos cv z => nomatch z⟩, tabs_ok h2⟩
    · unfold onTabs at e ⊢
      by_cases z : b ∈ [P]
      · rw [if_pos z] at e; rw [if_pos (by rw [List.map_cons, List.mem_singleton.mp z]; exact List.mem_cons_self ..)]; exact e
      · rw [if_neg z] at e; cases e
    · unfold onTabs at e ⊢
      by_cases z : b ∈ r.map (·.1)
      · rw [if_pos z] at e; rw [if_pos (by rw [List.map_cons]; exact List.mem_cons_of_mem _ z)]; exact e
      · rw [if_neg z] at e; cases e
    · by_cases z : b ∈ [P]
      · refine .inr (if_neg ?_)
        rw [List.mem_singleton.mp z]; exact h1
      · exact .inl (if_neg z)
theorem law_gT {P : Program} {w : World} {K : PySem.W.Frag} {mg mb : Str → Option Value} {k : Nat} {fa a : Addr} {fd : FuncData} {x : Str} {sp : DSp} {s₁ : Shared} {vs : List Value} {ns : List Int} {oS : Obj} {es : Array DictEntry} {ep : Nat} {tq : List (Addr × Str)} {cO : Addr → Addr}
    (KX : K.In s₁.heap) (hns : s₁.heap.Ns mainGlobals mg) (hb : s₁.heap.Ns builtinsNs mb) (hbb : ∀ x : Str, x ≠ "__name__" → mb x = bootBuiltins x) (hlim : s₁.heap.NoLimit) (hg : s₁.gens = #[])
    (hks : K.lookup sysModules = none) (hsy : s₁.heap.get? sysModules = some oS) (hsd : oS.data = .dict es ep)
    (hT : ∀ p ∈ tq.map (·.1), s₁.heap.get? p = some (PySem.W.tabObj #[])) (nT : ∀ p ∈ tq.map (·.1), K.lookup p = none) (hC : ∀ p ∈ tq.map (·.1), PySem.W.CodeHd s₁.heap (cO p) p) (hnd : (tq.map (·.1)).Nodup)
    (hbm : ∃ (bm : Addr) (om : Obj), mg "__builtins__" = some (.ref bm) ∧ bm ≠ builtinsNs ∧ s₁.heap.get? bm = some om ∧ om.cls = .type "module" ∧ om.dict = some builtinsNs ∧ om.data = .plain)
    (ha : s₁.heap.get? a = some { cls := .type "list", data := .seq vs.toArray }) (hi : IntsAre vs ns) (hl : ns.length ≤ sizeLine) (hr : Room k callerA)
    (F : ∀ base : Heap, K.In base → base.Ns mainGlobals mg → (∀ p ∈ tq.map (·.1), LamX.TabB base mg (cO p) p) → FnG P w K mg base (L2.CX P w) k fa fd [x] (spL ⟨K, mg, w⟩ sp)) (hbind : ∀ (s : Shared) (u : Value), BindsTo s fd ⟨[u], []⟩ [(x, u)])
    (hsp : sp (resOf ⟨K, mg, w⟩ ⟨none, tabOb tq⟩) [.frl (ns.map D.int)] (fun _ d => d = .bl true) noX) :
    codeAny (model P w) callerA (.call (.ref fa) ⟨[.ref a], []⟩) (fun r s' => r = .ok (.ret (.bool true)) ∧ OldK s₁.heap s'.heap ∧ s'.os = s₁.os ∧ AllBare s'.gens) s₁ := by
  have rv := vals_ints hi
  have lenV := hi.length
  have nas : a ≠ sysModules := fun z => by
    rw [z, hsy] at ha
    cases ha
    cases hsd
  have nat_ : a ∉ tq.map (·.1) := fun z => by
    have e := hT a z
    rw [ha] at e
    cases e
  have nst : sysModules ∉ tq.map (·.1) := fun z => by
    have e := hT _ z
    rw [hsy] at e
    cases e
    cases hsd
  have core : ∀ u : Option HO, (u = none ∨ ∃ o xs, u = some (.frz o (.lst xs))) → SqL K (fun b => if b = a then u else none) a (ns.map V.int) → HOk P w (HT a u oS (tq.map (·.1))) s₁.heap → (u ≠ none → K.lookup a = none) →
      codeAny (model P w) callerA (.call (.ref fa) ⟨[.ref a], []⟩) (fun r s' => r = .ok (.ret (.bool true)) ∧ OldK s₁.heap s'.heap ∧ s'.os = s₁.os ∧ AllBare s'.gens) s₁ := by
    intro u hu hS hok hK
    have far : ∀ {b : Addr} {o : Obj}, b ≠ sysModules → s₁.heap.get? b = some o → (∀ vs n, o.data ≠ .seq vs n) → o.data ≠ .fields #[] → (hidT s₁.heap (HT a u oS (tq.map (·.1)))).get? b = some o := fun {b o} h0 e h1 h2 => hidT_get e (HT_none h0 (fun z => by
      rw [z, ha] at e
      cases e
      exact h1 _ _ rfl) fun z => by
      rw [hT b z] at e
      cases e
      exact h2 rfl)
    have nsK : ∀ {b : Addr} {m : Str → Option Value}, b ≠ sysModules → s₁.heap.Ns b m → (hidT s₁.heap (HT a u oS (tq.map (·.1)))).Ns b m := fun {b m} hb' ⟨o, es, ep, e, d, r⟩ =>
      ⟨o, es, ep, far hb' e (fun _ _ z => by rw [d] at z; cases z) (fun z => by rw [d] at z; cases z), d, r⟩
    have hKb : K.In (hidT s₁.heap (HT a u oS (tq.map (·.1)))) := fun b o e => hidT_get (KX b o e) (by
      have n1 : b ≠ sysModules := fun z => by rw [z, hks] at e; cases e
      have n2 : b ∉ tq.map (·.1) := fun z => by rw [nT b z] at e; cases e
      by_cases hb : b = a
      · subst hb
        rw [HT_a n1]
        cases u with
        | none => rfl
        | some v => rw [hK (by simp)] at e; cases e
      · exact HT_none n1 hb n2)
    have hM : Mod K mg (hidT s₁.heap (HT a u oS (tq.map (·.1)))) := ⟨hKb, nsK (by decide) hns, ⟨mb, nsK (by decide) hb, hbb⟩, let ⟨mc, h1, h2⟩ := hlim; ⟨mc, nsK (by decide) h1, h2⟩⟩
    have tabB : ∀ p ∈ tq.map (·.1), LamX.TabB (hidT s₁.heap (HT a u oS (tq.map (·.1)))) mg (cO p) p := fun p hp => by
      have hTp := hT p hp
      have gne : mainGlobals ≠ p := fun z => by
        obtain ⟨o, es, ep, e, hd, _⟩ := hns
        rw [z, hTp] at e
        cases e
        cases hd
      refine ⟨?_, ?_, gne⟩
      · obtain ⟨o, us, f1, f2, f3, f4, f5, f6, f7, e1, r1, r2, r3, rr⟩ := hC p hp
        have nz : o.data ≠ .fields #[] := fun z => by
          rw [r2] at z
          cases z
          cases r3
        refine ⟨o, us, f1, f2, f3, f4, f5, f6, f7, far (fun z => ?_) e1 (fun _ _ z => by rw [r2] at z; cases z) nz, r1, r2, r3, rr⟩
        rw [z, hsy] at e1
        cases e1
        rw [hsd] at r2
        cases r2
      · obtain ⟨bm, om, m1, m2, m3, m4, m5, m6⟩ := hbm
        refine ⟨bm, om, m1, m2, fun q => ?_, fun q => ?_, far (fun z => ?_) m3 (fun _ _ z => by rw [m6] at z; cases z) (fun z => by rw [m6] at z; cases z), m4, m5, m6⟩
        · obtain ⟨o, es, ep, e, hd, _⟩ := hns
          rw [q, e] at m3
          cases m3
          rw [m6] at hd
          cases hd
        · rw [q, hTp] at m3
          cases m3
          cases m6
        · rw [z, hsy] at m3
          cases m3
          rw [m6] at hsd
          cases hsd
    have e0 : Env0 P w K mg (hidT s₁.heap (HT a u oS (tq.map (·.1)))) callerA [] s₁ (HT a u oS (tq.map (·.1))) := ⟨rfl, hM, fun b o e => of_hidT e, Nat.le_of_eq (hidT_size _ _), trivial, fun b hb => absurd (show b ∈ ([] : List Addr) from hb) (by simp), hok, .of_eq hg⟩
    have hw : Wd (resOf ⟨K, mg, w⟩ ⟨none, tabOb tq⟩) (fun b => if b = a then u else none) (fun b => if b = sysModules then some (sysO oS) else none) (HT a u oS (tq.map (·.1))) := {
      sys := ⟨oS, if_pos rfl⟩
      ex := fun b o e => by
        by_cases q : b = a
        · subst q; rw [HT_a nas]; exact (if_pos rfl).symm.trans e
        · cases (if_neg q).symm.trans e
      fz := fun b o e => by
        by_cases q : b = sysModules
        · subst q; rw [HT_sys]; exact (if_pos rfl).symm.trans e
        · cases (if_neg q).symm.trans e
      dis := fun b o e => by
        by_cases q : b = sysModules
        · subst q; exact if_neg (Ne.symm nas)
        · cases (if_neg q).symm.trans e
      res := by
        have on : ∀ b o, onTabs (tq.map (·.1)) b = some o → b ∈ tq.map (·.1) ∧ o = .tbl #[] := fun b o e => by
          unfold onTabs at e
          by_cases z : b ∈ tq.map (·.1)
          · rw [if_pos z] at e; cases e; exact ⟨z, rfl⟩
          · rw [if_neg z] at e; cases e
        refine ⟨onTabs (tq.map (·.1)), fun b o e => ?_, fun b o e => ?_, fun _ => none, onTabs (tq.map (·.1)), (fun _ _ e => (nomatch e)), (fun _ _ e => e), (fun _ => .inl rfl), trivial, tabs_ok hnd⟩
        · obtain ⟨z, rfl⟩ := on b o e
          exact HT_tab (fun q => nst (q ▸ z)) (fun q => nat_ (q ▸ z)) z
        · obtain ⟨z, rfl⟩ := on b o e
          exact ⟨if_neg fun q : b = a => nat_ (q ▸ z), if_neg fun q : b = sysModules => nst (q ▸ z)⟩ }
    have hs : spL ⟨K, mg, w⟩ sp [.ref a] (HT a u oS (tq.map (·.1))) (fun v H' => v = .bl true ∧ H' sysModules = some (sysO oS)) (fun _ _ _ => False) :=
      ⟨resOf ⟨K, mg, w⟩ ⟨none, tabOb tq⟩, _, _, _, _, noX, hw, .cons (.frl hS (Dps.ints ns)) .nil, hsp, fun R v H' B' d e w' h q => by subst q; exact ⟨h.ofBl, w'.fz _ _ (if_pos rfl)⟩, fun _ _ _ _ _ _ _ _ _ _ _ _ _ z => z⟩
    refine codeAny_mono ((F _ hKb (nsK (by decide) hns) tabB).go callerA [] s₁ _ ⟨[.ref a], []⟩ [.ref a] [.ref a] _ _ hr rfl e0 (hbind s₁ (.ref a)) (.cons rfl .nil) hs) fun r s' h => ?_
    cases r with
    | error e =>
      obtain ⟨_, _, _, _, _, _, _, _, _, _, _, _, z⟩ := h
      exact z.elim
    | ok fl =>
      cases fl with
      | next => exact False.elim h
      | brk => exact False.elim h
      | cont => exact False.elim h
      | ret uv =>
        obtain ⟨v, H', os, bare, un, hok', r', q, qs⟩ := h
        subst q
        obtain rfl : uv = Value.bool true := r'
        have stay : ∀ b o, b ∉ tq.map (·.1) → s₁.heap.get? b = some o → s'.heap.get? b = some o := fun b o h3 e => by
          by_cases h1 : b = sysModules
          · subst h1
            have z : ObjOk P w H' s'.heap sysModules (.ext fun h => h.get? sysModules = some oS) := hok' _ _ qs
            rw [hsy] at e
            cases e
            exact z.1
          · by_cases h2 : b = a
            · subst h2
              rcases hu with rfl | ⟨ob, xs, rfl⟩
              · exact un.keep b o e (HT_a h1) (by intro z; exact absurd (show b ∈ ([] : List Addr) from z) (by simp)) (by simp)
              · have z := HT_a (u := some (.frz ob (.lst xs))) (o := oS) (Ps := tq.map (·.1)) h1
                obtain ⟨e1, _⟩ := hok b _ z
                obtain ⟨e2, _⟩ := hok' b _ (un.frzs b ob _ z)
                rw [e] at e1
                cases e1
                exact e2
            · exact un.keep b o e (HT_none h1 h2 h3) (by intro z; exact absurd (show b ∈ ([] : List Addr) from z) (by simp)) (by simp)
        have grow : ∀ p ∈ tq.map (·.1), ∃ more : Array Value, s'.heap.get? p = some (PySem.W.tabObj more) := fun p hp => by
          obtain ⟨more, z⟩ := un.tbls p #[] (HT_tab (fun q => nst (q ▸ hp)) (fun q => nat_ (q ▸ hp)) hp)
          exact ⟨_, hok' p _ z⟩
        refine ⟨rfl, ⟨fun b o e => ?_, fun b o e => ?_⟩, os, bare⟩
        · by_cases h3 : b ∈ tq.map (·.1)
          · obtain ⟨more, hm⟩ := grow b h3
            have eT := hT b h3
            rw [eT] at e
            cases e
            exact .inr (.inl ⟨((hC b h3).tab eT).isCodeTable, rfl, #[], more, rfl, by rw [Array.empty_append]; exact hm⟩)
          · exact .inl (stay b o h3 e)
        · by_cases h3 : b ∈ tq.map (·.1)
          · obtain ⟨more, hm⟩ := grow b h3
            exact ⟨_, hm⟩
          · exact ⟨o, stay b o h3 e⟩
  have sysok : ∀ (H : Hp), ObjOk P w H s₁.heap sysModules (sysO oS) := fun H => ⟨hsy, ⟨_, hsy⟩, fun h1 h2 z k => k _ z⟩
  have others : ∀ (u : Option HO) (b : Addr) (v : HO) (H : Hp), b ≠ a → HT a u oS (tq.map (·.1)) b = some v → ObjOk P w H s₁.heap b v := fun u b v H q2 z => by
    by_cases q : b = sysModules
    · subst q; rw [HT_sys] at z; cases z; exact sysok _
    · by_cases q3 : b ∈ tq.map (·.1)
      · rw [HT_tab q q2 q3] at z; cases z; exact hT b q3
      · rw [HT_none q q2 q3] at z; cases z
  cases hk : K.lookup a with
  | some o =>
    have e := KX a o hk
    rw [ha] at e
    cases e
    refine core none (.inl rfl) (.inr ⟨_, vs.toArray, _, hk, rfl, rfl, rfl, by rw [List.size_toArray, lenV]; exact hl, by simpa using rv⟩) (fun b v z => ?_) fun z => absurd rfl z
    by_cases q2 : b = a
    · subst q2; rw [HT_a nas] at z; cases z
    · exact others _ b v _ q2 z
  | none =>
    refine core (some (.frz { cls := .type "list", data := .seq vs.toArray } (.lst (ns.map V.int)))) (.inr ⟨_, _, rfl⟩) (.inl (.inr ⟨{ cls := .type "list", data := .seq vs.toArray }, if_pos rfl⟩)) (fun b v z => ?_) fun _ => hk
    by_cases q2 : b = a
    · subst q2; rw [HT_a nas] at z; cases z
      exact ⟨ha, by rw [List.length_map]; exact hl, vs, _, rv, ha⟩
    · exact others _ b v _ q2 z
end DL

set_option Elab.async false
set_option linter.all false
set_option maxRecDepth 100000
set_option maxHeartbeats 1000000
namespace DL
open PySem L2 PySem.Spec PyProof.Rows
/-! ### the head, with tables: they are empty, and none of what is known -/
def Kt (g : Addr → Option Obj) (n : Nat) : Fg := He.frT g ((asX g n).filter (· != sysModules))
theorem frT_out {g : Addr → Option Obj} {a : Addr} {as : List Addr} (h : a ∉ as) : (He.frT g as).lookup a = none := by
  cases q : (He.frT g as).lookup a with
  | none => rfl
  | some o =>
    have h1 := (List.mem_filter.mp (He.lookup_mem q)).1
    unfold He.frG at h1
    obtain ⟨b, hb, e⟩ := List.mem_filterMap.mp h1
    cases z : g b with
    | none => rw [z] at e; cases e
    | some v => rw [z] at e; cases e; exact absurd hb h
def codeO (K : Fg) (x : Str) : Addr := (He.cT K (x, none)).1
def tabA (K : Fg) (x : Str) : Addr := (He.cT K (x, none)).2
structure TabsX (tf : List Str) (K : Fg) (h : Heap) : Prop where
  hd : ∀ x ∈ tf, PySem.W.codeHdIn K (codeO K x) (tabA K x) = true
  out : ∀ x ∈ tf, K.lookup (tabA K x) = none
  empty : ∀ x ∈ tf, h.get? (tabA K x) = some (PySem.W.tabObj #[])
  nd : (tf.map (tabA K)).Nodup
  ref : ∀ x ∈ tf, (He.Fa.glo x).ok K = true
def emptyAt : Option Obj → Bool
  | some o => He.emptyTab o
  | none => false
def tabsG (g : Addr → Option Obj) (tf : List Str) (K : Fg) : Bool := (tf.all fun x => PySem.W.codeHdIn K (codeO K x) (tabA K x) && (emptyAt (g (tabA K x)) && (He.Fa.glo x).ok K)) && decide (tf.map (tabA K)).Nodup
theorem tabsG_ok {h : Heap} {n : Nat} {tf : List Str} (e : tabsG h.get? tf (Kt h.get? n) = true) : TabsX tf (Kt h.get? n) h := by
  obtain ⟨e1, e2⟩ := He.ba e
  have each : ∀ x ∈ tf, PySem.W.codeHdIn (Kt h.get? n) (codeO (Kt h.get? n) x) (tabA (Kt h.get? n) x) = true ∧ (∃ o, h.get? (tabA (Kt h.get? n) x) = some o ∧ He.emptyTab o = true) ∧ (He.Fa.glo x).ok (Kt h.get? n) = true := fun x hx => by
    obtain ⟨a1, a2⟩ := He.ba (List.all_eq_true.mp e1 x hx)
    obtain ⟨a3, a4⟩ := He.ba a2
    refine ⟨a1, ?_, a4⟩
    cases q : h.get? (tabA (Kt h.get? n) x) with
    | none => rw [q] at a3; cases a3
    | some o => rw [q] at a3; exact ⟨o, rfl, a3⟩
  exact ⟨fun x hx => (each x hx).1, fun x hx => let ⟨_, ⟨_, q, z⟩, _⟩ := each x hx; He.frT_none q z, fun x hx => by
    obtain ⟨_, ⟨o, q, z⟩, _⟩ := each x hx
    rw [q, He.emptyTab_eq z], of_decide_eq_true e2, fun x hx => (each x hx).2.2⟩
abbrev AlT := Bool × AlX × Bool
def obsTG (n : Nat) (mf : Str) (fa : List (Fg → Bool)) (fn : List He.FnD) (xn : List XnD) (tf : List Str) (g : Addr → Option Obj) : AlT := (isDict (g sysModules), obsX mf fa fn xn (Kt g n), tabsG g tf (Kt g n))
def hookT (n : Nat) (mf : Str) (fa : List (Fg → Bool)) (fn : List He.FnD) (xn : List XnD) (tf : List Str) : PySem.W.Hook where
  α := AlT
  obs := fun s => obsTG n mf fa fn xn tf s.heap.get?
  val := fun _ => (true, valX fn xn, true)
  says := fun _ h => ∃ K : Fg, SaysX mf fa fn xn K h ∧ TabsX tf K h
  of := fun _ _ e => ⟨_, ⟨He.frT_in, congrArg (fun z : AlT => z.2.1) e, frT_out (fun z => by have := (List.mem_filter.mp z).2; simp at this), congrArg (fun z : AlT => z.1) e⟩, tabsG_ok (congrArg (fun z : AlT => z.2.2) e)⟩
  keeps := fun _ _ _ ⟨K, c, t⟩ k => ⟨K, ⟨PySem.W.Frag.In.keeps c.kin k, c.eq, c.nos, isDict_keeps c.sys k⟩, ⟨t.hd, t.out, fun x hx => k _ _ (t.empty x hx), t.nd, t.ref⟩⟩
theorem obsTG_eq {n : Nat} {mf : Str} {fa : List (Fg → Bool)} {fn : List He.FnD} {xn : List XnD} {tf : List Str} {g : Addr → Option Obj} {s : Shared} (h : ∀ a, g a = s.heap.get? a) : obsTG n mf fa fn xn tf g = (hookT n mf fa fn xn tf).obs s := by
  have e : g = s.heap.get? := funext h
  rw [e] <;> rfl
/-- the tables, with what the lambdas made there are called -/
def tqOf (K : Fg) (tf : List Str) : List (Addr × Str) := tf.map fun x => (tabA K x, x ++ ".<locals>.<lambda>")
theorem tqOf_fst {K : Fg} {tf : List Str} : (tqOf K tf).map (·.1) = tf.map (tabA K) := by unfold tqOf; rw [List.map_map]; rfl
theorem getL_tq {K : Fg} {x q : Str} (e : x ++ ".<locals>.<lambda>" = q) : ∀ {tf : List Str}, (tf.map (tabA K)).Nodup → x ∈ tf → getL (tabA K x) (tabOb (tqOf K tf)) = some (.own (.str q))
  | [], _, h => nomatch h
  | y :: r, hn, h => by
    rw [List.map_cons] at hn
    obtain ⟨h1, h2⟩ := List.nodup_cons.mp hn
    show (if tabA K x = tabA K y then some (D.own (.str (y ++ ".<locals>.<lambda>"))) else getL (tabA K x) (tabOb (tqOf K r))) = _
    by_cases z : x = y
    · subst z; rw [if_pos rfl, e]
    · have hx : x ∈ r := by rcases List.mem_cons.mp h with h | h; exact absurd h z; exact h
      rw [if_neg fun w => h1 (by rw [← w]; exact List.mem_map.mpr ⟨x, hx, rfl⟩)]
      exact getL_tq e h2 hx
/-- a table's code object -/
def cOf (K : Fg) (tf : List Str) (p : Addr) : Addr := match tf.find? (fun x => tabA K x == p) with
  | some x => codeO K x
  | none => 0
theorem find_nd {K : Fg} : ∀ {tf : List Str}, (tf.map (tabA K)).Nodup → ∀ x ∈ tf, tf.find? (fun y => tabA K y == tabA K x) = some x
  | [], _, _, h => nomatch h
  | y :: r, hn, x, h => by
    rw [List.map_cons] at hn
    obtain ⟨h1, h2⟩ := List.nodup_cons.mp hn
    rw [List.find?_cons]
    rcases List.mem_cons.mp h with rfl | h
    · simp
    · have : (tabA K y == tabA K x) = false := by
        apply Bool.eq_false_iff.mpr
        intro z
        exact h1 (by rw [beq_iff_eq.mp z]; exact List.mem_map.mpr ⟨x, h, rfl⟩)
      rw [this]
      exact find_nd h2 x h
theorem TabsX.cOf {tf : List Str} {K : Fg} {h : Heap} (t : TabsX tf K h) {x : Str} (hx : x ∈ tf) : cOf K tf (tabA K x) = codeO K x := by
  unfold DL.cOf
  rw [find_nd t.nd x hx]
/-- the tables are where they should be -/
theorem TabsX.at {tf : List Str} {K : Fg} {h : Heap} (t : TabsX tf K h) (hK : K.In h) {mg : Str → Option Value} (G : h.Ns mainGlobals mg) {base : Heap} (TB : ∀ p ∈ tf.map (tabA K), LamX.TabB base mg (DL.cOf K tf p) p) {x : Str} {st : Stmt} (hx : x ∈ tf) (hD : DefAt K mg x st) : TabAt K mg base x (tabA K x) := by
  intro f cdv hm ⟨oc, od, fd, osl, lk, ec⟩
  obtain ⟨f', fd', hm', F, _⟩ := hD
  obtain ⟨oc', od', kV, doc, pm, an, cd', ct, osl', rfl, lk', hcd⟩ := F
  rw [hm'] at hm
  cases hm
  rw [lk'] at lk
  cases lk
  obtain ⟨c, rfl⟩ := He.codeIn_ref hcd
  subst ec
  refine ⟨c, rfl, ?_⟩
  have eg := He.glo_ok hK G (t.ref x hx)
  rw [hm'] at eg
  have ef : He.fAd K (x, none) = f := (Value.ref.inj (Option.some.inj eg)).symm
  have e1 : codeO K x = c := He.codeOf_eq (p := (x, none)) (by rw [ef]; exact lk') rfl
  have := TB (tabA K x) (List.mem_map.mpr ⟨x, hx, rfl⟩)
  rw [t.cOf hx, e1] at this
  exact this
/-- the walk that a head asks for, with tables -/
theorem walk_gT {l : PySem.W.OpenLaw} {n k : Nat} {q : Program} {loose : List Str} {XP : (Str → Option Value) → Heap → Prop} {YP : World → Heap → Prop} {d : DefRec} {x : Str} {tf : List Str} (hn : l.most = some n) (hn2 : n ≤ sizeLine) (hdf : d.params.defaults = []) (hr : Room k callerA)
    (F : ∀ (w : World) (mg : Str → Option Value) (fa : Addr) (h : Heap), YP w h → h.Ns mainGlobals mg → mg d.name = some (.ref fa) → ∃ (K : Fg) (fd : FuncData) (sp : DSp), K.In h ∧ K.lookup sysModules = none ∧ isDict (h.get? sysModules) = true ∧ TabsX tf K h ∧ (∀ (s : Shared) (u : Value), BindsTo s fd ⟨[u], []⟩ [(x, u)]) ∧
      (∀ ns : List Int, ns.length ≤ n → sp (resOf ⟨K, mg, w⟩ ⟨none, tabOb (tqOf K tf)⟩) [.frl (ns.map D.int)] (fun _ d => d = .bl true) noX) ∧
      ∀ base : Heap, K.In base → base.Ns mainGlobals mg → (∀ p ∈ tf.map (tabA K), LamX.TabB base mg (cOf K tf p) p) → FnG l.prog w K mg base (L2.CX l.prog w) k fa fd [x] (spL ⟨K, mg, w⟩ sp)) :
    PySem.W.WalkO q loose XP YP l.row.toRowW d [] (fun f vs => PySem.call f vs) := by
  refine Att.attach_call hn hdf fun w s₀ s₁ mg mb fa o pm cd doc a vs ns G Y ho hd hcd hmg hobj hints hlen hg => ?_
  obtain ⟨K, fd, sp, KX, hks, hsy, T, hb, hsp, hF⟩ := F w mg fa _ Y G.T.g hmg
  have inT : ∀ p ∈ (tqOf K tf).map (·.1), ∃ x ∈ tf, tabA K x = p := fun p hp => by
    rw [tqOf_fst] at hp
    obtain ⟨x, hx, e⟩ := List.mem_map.mp hp
    exact ⟨x, hx, e⟩
  cases e : s₁.heap.get? sysModules with
  | none => rw [e] at hsy; cases hsy
  | some oS =>
    rw [e] at hsy
    obtain ⟨o1, o2, o3, o4⟩ := oS
    cases o3 with
    | dict es ep =>
      refine law_gT (tq := tqOf K tf) (cO := cOf K tf) KX G.T.g G.T.b G.T.builtins G.T.nolimit hg hks e rfl (fun p hp => ?_) (fun p hp => ?_) (fun p hp => ?_) (by rw [tqOf_fst]; exact T.nd) G.T.bmain hobj hints (Nat.le_trans hlen hn2) hr (fun base h1 h2 h3 => hF base h1 h2 fun p hp => h3 p (by rw [tqOf_fst]; exact hp)) hb (hsp ns hlen)
      · obtain ⟨x, hx, rfl⟩ := inT p hp
        exact T.empty x hx
      · obtain ⟨x, hx, rfl⟩ := inT p hp
        exact T.out x hx
      · obtain ⟨x, hx, rfl⟩ := inT p hp
        rw [T.cOf hx]
        exact PySem.W.codeHd_of_K KX (T.hd x hx)
    | _ => cases hsy
end DL

set_option Elab.async false
set_option linter.all false
set_option maxRecDepth 100000
set_option maxHeartbeats 1000000
namespace DL
open PySem L2 PySem.Spec PyProof.Rows
def nfB (c : Str) (K : Fg) : Bool := (He.Fa.glo c).ok K && tyNames.all fun t => PySem.W.notFirst K (He.ga K c) (.type t)
theorem nfB_ok {K : Fg} {h : Heap} {mg : Str → Option Value} (X : K.In h) (G : h.Ns mainGlobals mg) {c : Str} (e : nfB c K = true) : NfK K mg c := by
  obtain ⟨e1, e2⟩ := He.ba e
  intro C hC t ht
  have := He.glo_ok X G e1
  rw [hC] at this
  rw [Value.ref.inj (Option.some.inj this)]
  exact List.all_eq_true.mp e2 t ht
section
variable {mf : Str} {fa : List (Fg → Bool)} {fn : List He.FnD} {xn : List XnD} {K : Fg} {h : Heap} {mg : Str → Option Value}
theorem SaysX.metAt (c : SaysX mf fa fn xn K h) (G : h.Ns mainGlobals mg) {x m q : Str} {st : Stmt} (i j : Nat) (hi : fn[i]? = some ⟨(x, some m), m, q, defArgs st, defBody st, defScope st⟩)
    (hj : fa[j]? = some fun K => (He.Fa.glo x).ok K && ((He.Fa.cls x).ok K && (He.Fa.meth x m).ok K)) : MetAt K mg x m q st := by
  obtain ⟨oc, od, osl, kV, doc, pm, an, cdv, ct, e1, e2⟩ := c.def_ i hi
  obtain ⟨k1, k2⟩ := He.ba (c.fact j hj)
  obtain ⟨k3, k4⟩ := He.ba k2
  have me := He.meth_ok k4
  exact ⟨_, _, _, He.glo_ok c.kin G k1, He.cls_ok k3, me, ⟨oc, od, kV, doc, pm, an, cdv, ct, osl, rfl, e1, e2⟩, me.kp⟩
end
end DL

set_option Elab.async false
set_option linter.all false
set_option maxRecDepth 100000
set_option maxHeartbeats 0
namespace Kk04
open PySem L2 DL V PySem.Spec PyProof.Rows
theorem xs_BadNames : XcS (met 2 0) "value" := ⟨⟨_, _, _, _, _, _, _, _, _, _, _, _, rfl, rfl⟩, rfl, rfl, rfl, by decide +kernel, by decide +kernel, by decide +kernel, by decide +kernel, by decide +kernel, by decide, by decide, ⟨_, rfl, rfl⟩, fun _ _ _ _ _ _ _ _ _ _ => rfl, fun _ _ _ _ _ _ _ _ _ _ => rfl⟩
theorem xs_BadRule : XcS (met 3 0) "place" := ⟨⟨_, _, _, _, _, _, _, _, _, _, _, _, rfl, rfl⟩, rfl, rfl, rfl, by decide +kernel, by decide +kernel, by decide +kernel, by decide +kernel, by decide +kernel, by decide, by decide, ⟨_, rfl, rfl⟩, fun _ _ _ _ _ _ _ _ _ _ => rfl, fun _ _ _ _ _ _ _ _ _ _ => rfl⟩
def fn : List He.FnD := ([⟨("is_number", none), "is_number", "is_number", defArgs s_is_number, defBody s_is_number, defScope s_is_number⟩, ⟨("is_among", none), "is_among", "is_among", defArgs s_is_among, defBody s_is_among, defScope s_is_among⟩, ⟨("is_word", none), "is_word", "is_word", defArgs s_is_word, defBody s_is_word, defScope s_is_word⟩, ⟨("are_rising", none), "are_rising", "are_rising", defArgs s_are_rising, defBody s_are_rising, defScope s_are_rising⟩, ⟨("need_names", none), "need_names", "need_names", defArgs s_need_names, defBody s_need_names, defScope s_need_names⟩, ⟨("is_quota", none), "is_quota", "is_quota", defArgs s_is_quota, defBody s_is_quota, defScope s_is_quota⟩, ⟨("is_hand", none), "is_hand", "is_hand", defArgs s_is_hand, defBody s_is_hand, defScope s_is_hand⟩, ⟨("is_order", none), "is_order", "is_order", defArgs s_is_order, defBody s_is_order, defScope s_is_order⟩] : List He.FnD) ++ ([⟨("Rule", some "__init__"), "__init__", "Rule.__init__", defArgs s_Rule___init__, defBody s_Rule___init__, defScope s_Rule___init__⟩, ⟨("Rule", some "fields"), "fields", "Rule.fields", defArgs s_Rule_fields, defBody s_Rule_fields, defScope s_Rule_fields⟩, ⟨("Rule", some "__eq__"), "__eq__", "Rule.__eq__", defArgs s_Rule___eq__, defBody s_Rule___eq__, defScope s_Rule___eq__⟩, ⟨("Rule", some "with_seats"), "with_seats", "Rule.with_seats", defArgs s_Rule_with_seats, defBody s_Rule_with_seats, defScope s_Rule_with_seats⟩, ⟨("Rule", some "with_quota"), "with_quota", "Rule.with_quota", defArgs s_Rule_with_quota, defBody s_Rule_with_quota, defScope s_Rule_with_quota⟩, ⟨("Rule", some "with_hand"), "with_hand", "Rule.with_hand", defArgs s_Rule_with_hand, defBody s_Rule_with_hand, defScope s_Rule_with_hand⟩, ⟨("Rule", some "with_order"), "with_order", "Rule.with_order", defArgs s_Rule_with_order, defBody s_Rule_with_order, defScope s_Rule_with_order⟩, ⟨("units", none), "units", "units", defArgs s_units, defBody s_units, defScope s_units⟩] : List He.FnD) ++ ([⟨("_law_begun", none), "_law_begun", "_law_begun", defArgs s_law_begun, defBody s_law_begun, defScope s_law_begun⟩, ⟨("_law_next", none), "_law_next", "_law_next", defArgs s_law_next, defBody s_law_next, defScope s_law_next⟩, ⟨("_law_names", none), "_law_names", "_law_names", defArgs s_law_names, defBody s_law_names, defScope s_law_names⟩, ⟨("_law_many", none), "_law_many", "_law_many", defArgs s_law_many, defBody s_law_many, defScope s_law_many⟩, ⟨("_law_order", none), "_law_order", "_law_order", defArgs s_law_order, defBody s_law_order, defScope s_law_order⟩, ⟨("_law_rule", none), "_law_rule", "_law_rule", defArgs s_law_rule, defBody s_law_rule, defScope s_law_rule⟩, ⟨("_law_units", none), "_law_units", "_law_units", defArgs s_law_units, defBody s_law_units, defScope s_law_units⟩, ⟨("_law_is_whole", none), "_law_is_whole", "_law_is_whole", defArgs s_law_is_whole, defBody s_law_is_whole, defScope s_law_is_whole⟩] : List He.FnD) ++ ([⟨("_law_wrong", none), "_law_wrong", "_law_wrong", defArgs s_law_wrong, defBody s_law_wrong, defScope s_law_wrong⟩, ⟨("_law_told", none), "_law_told", "_law_told", defArgs s_law_told, defBody s_law_told, defScope s_law_told⟩, ⟨("_law_odd", none), "_law_odd", "_law_odd", defArgs s_law_odd, defBody s_law_odd, defScope s_law_odd⟩, ⟨("_law_bent", none), "_law_bent", "_law_bent", defArgs s_law_bent, defBody s_law_bent, defScope s_law_bent⟩, ⟨("_law_near", none), "_law_near", "_law_near", defArgs s_law_near, defBody s_law_near, defScope s_law_near⟩, ⟨("_law_equals_right", none), "_law_equals_right", "_law_equals_right", defArgs s_law_equals_right, defBody s_law_equals_right, defScope s_law_equals_right⟩, ⟨("_law_with_right", none), "_law_with_right", "_law_with_right", defArgs s_law_with_right, defBody s_law_with_right, defScope s_law_with_right⟩, ⟨("law", none), "law", "law", defArgs s_law, defBody s_law, defScope s_law⟩] : List He.FnD)
def xn : List XnD := ([⟨"BadNames", "value", "BadNames.__init__", met 2 0, false⟩, ⟨"BadRule", "place", "BadRule.__init__", met 3 0, false⟩] : List XnD)
def fa : List (Fg → Bool) := ([fun K => (He.Fa.glo "is_number").ok K && (He.Fa.keep "is_number").ok K, fun K => (He.Fa.glo "is_among").ok K && (He.Fa.keep "is_among").ok K, fun K => (He.Fa.glo "is_word").ok K && (He.Fa.keep "is_word").ok K, fun K => (He.Fa.glo "are_rising").ok K && (He.Fa.keep "are_rising").ok K, fun K => (He.Fa.glo "need_names").ok K && (He.Fa.keep "need_names").ok K, fun K => (He.Fa.glo "is_quota").ok K && (He.Fa.keep "is_quota").ok K, fun K => (He.Fa.glo "is_hand").ok K && (He.Fa.keep "is_hand").ok K, fun K => (He.Fa.glo "is_order").ok K && (He.Fa.keep "is_order").ok K] : List (Fg → Bool)) ++ ([fun K => (He.Fa.glo "Rule").ok K && ((He.Fa.mkr "Rule").ok K && PySem.W.keepIn K (.ref (He.ma K (He.ga K "Rule") "__init__"))), fun K => (He.Fa.glo "Rule").ok K && ((He.Fa.cls "Rule").ok K && (He.Fa.meth "Rule" "fields").ok K), fun K => (He.Fa.glo "Rule").ok K && ((He.Fa.cls "Rule").ok K && (He.Fa.meth "Rule" "__eq__").ok K), fun K => (He.Fa.glo "Rule").ok K && ((He.Fa.cls "Rule").ok K && (He.Fa.meth "Rule" "with_seats").ok K), fun K => (He.Fa.glo "Rule").ok K && ((He.Fa.cls "Rule").ok K && (He.Fa.meth "Rule" "with_quota").ok K), fun K => (He.Fa.glo "Rule").ok K && ((He.Fa.cls "Rule").ok K && (He.Fa.meth "Rule" "with_hand").ok K), fun K => (He.Fa.glo "Rule").ok K && ((He.Fa.cls "Rule").ok K && (He.Fa.meth "Rule" "with_order").ok K), fun K => (He.Fa.glo "units").ok K && (He.Fa.keep "units").ok K] : List (Fg → Bool)) ++ ([fun K => (He.Fa.glo "_law_begun").ok K && (He.Fa.keep "_law_begun").ok K, fun K => (He.Fa.glo "_law_next").ok K && (He.Fa.keep "_law_next").ok K, fun K => (He.Fa.glo "_law_names").ok K && (He.Fa.keep "_law_names").ok K, fun K => (He.Fa.glo "_law_many").ok K && (He.Fa.keep "_law_many").ok K, fun K => (He.Fa.glo "_law_order").ok K && (He.Fa.keep "_law_order").ok K, fun K => (He.Fa.glo "_law_rule").ok K && (He.Fa.keep "_law_rule").ok K, fun K => (He.Fa.glo "_law_units").ok K && (He.Fa.keep "_law_units").ok K, fun K => (He.Fa.glo "_law_is_whole").ok K && (He.Fa.keep "_law_is_whole").ok K] : List (Fg → Bool)) ++ ([fun K => (He.Fa.glo "_law_wrong").ok K && (He.Fa.keep "_law_wrong").ok K, fun K => (He.Fa.glo "_law_told").ok K && (He.Fa.keep "_law_told").ok K, fun K => (He.Fa.glo "_law_odd").ok K && (He.Fa.keep "_law_odd").ok K, fun K => (He.Fa.glo "_law_bent").ok K && (He.Fa.keep "_law_bent").ok K, fun K => (He.Fa.glo "_law_near").ok K && (He.Fa.keep "_law_near").ok K, fun K => (He.Fa.glo "_law_equals_right").ok K && (He.Fa.keep "_law_equals_right").ok K, fun K => (He.Fa.glo "_law_with_right").ok K && (He.Fa.keep "_law_with_right").ok K, fun K => (He.Fa.glo "law").ok K && (He.Fa.keep "law").ok K] : List (Fg → Bool)) ++ ([fun K => (He.Fa.free "all").ok K, fun K => (He.Fa.free "bool").ok K, fun K => (He.Fa.free "int").ok K, fun K => (He.Fa.free "isinstance").ok K, fun K => (He.Fa.free "len").ok K, fun K => (He.Fa.free "list").ok K, fun K => (He.Fa.free "min").ok K, fun K => (He.Fa.free "range").ok K] : List (Fg → Bool)) ++ ([fun K => (He.Fa.free "repr").ok K, fun K => (He.Fa.free "sorted").ok K, fun K => (He.Fa.free "str").ok K, fun K => (He.Fa.free "super").ok K, fun K => (He.Fa.free "tuple").ok K, fun K => (He.Fa.free "zip").ok K, fun K => (He.Fa.glo "VoteError").ok K, fun K => (He.Fa.glo "BadNames").ok K] : List (Fg → Bool)) ++ ([fun K => (He.Fa.glo "BadRule").ok K, fun K => (He.Fa.glo "Rule").ok K, fun K => (He.Fa.int "LEAST_NAMES" 2).ok K, fun K => (He.Fa.int "MOST_NAMES" 4).ok K, fun K => (He.Fa.int "MOST_LETTERS" 8).ok K, fun K => (He.Fa.str "LETTERS" "abcdefghijklmnopqrstuvwxyz").ok K, fun K => (He.Fa.int "MOST_PART" 100).ok K, nfB "Rule"] : List (Fg → Bool)) ++ ([attOB, attXB, exsB, isi1, isi2] : List (Fg → Bool))
def tf : List Str := (["_law_with_right", "law"] : List Str)
abbrev PR : Program := (PySem.Challenge.rw_handedvotes_k04_whole_rules_made).prog
abbrev mf : Str := PR.main.file
theorem gs_of {mf : Str} {K : Fg} {h : Heap} {mg : Str → Option Value} {base : Heap} (c : SaysX mf fa fn xn K h) (G : h.Ns mainGlobals mg) (hf : PR.main.file = mf) (hs : (PR.main.scope.names.lookup ("super" : Str)).isSome = false) (T : TabsX tf K h) (TB : ∀ p ∈ tf.map (tabA K), LamX.TabB base mg (cOf K tf p) p) : Gs (tabA K) PR K mg base := by
  have ax := attXB_ok c.kin G (c.fact 57 (f := attXB) rfl)
  have go : ∀ (i : Nat) (d : XnD), xn[i]? = some d → XcS d.st d.fld → XcD PR K mg d.cls d.fld := fun i d hi S => by
    obtain ⟨C, h1, h2, h3, h4⟩ := c.exc (P := PR) G hf hs i hi
    exact ⟨_, _, _, S, h2, h1⟩
  refine ⟨c.free G 32 rfl,
    c.free G 33 rfl,
    c.free G 34 rfl,
    c.free G 35 rfl,
    c.free G 36 rfl,
    c.free G 37 rfl,
    c.free G 38 rfl,
    c.free G 39 rfl,
    c.free G 40 rfl,
    c.free G 41 rfl,
    c.free G 42 rfl,
    c.free G 43 rfl,
    c.free G 44 rfl,
    c.free G 45 rfl,
    c.defAt G 0 0 rfl rfl,
    c.defAt G 1 1 rfl rfl,
    c.defAt G 2 2 rfl rfl,
    c.defAt G 3 3 rfl rfl,
    c.defAt G 4 4 rfl rfl,
    c.defAt G 5 5 rfl rfl,
    c.defAt G 6 6 rfl rfl,
    c.defAt G 7 7 rfl rfl,
    c.mkAt G 8 8 rfl rfl,
    c.metAt G 9 9 rfl rfl,
    c.metAt G 10 10 rfl rfl,
    c.metAt G 11 11 rfl rfl,
    c.metAt G 12 12 rfl rfl,
    c.metAt G 13 13 rfl rfl,
    c.metAt G 14 14 rfl rfl,
    c.defAt G 15 15 rfl rfl,
    c.defAt G 16 16 rfl rfl,
    c.defAt G 17 17 rfl rfl,
    c.defAt G 18 18 rfl rfl,
    c.defAt G 19 19 rfl rfl,
    c.defAt G 20 20 rfl rfl,
    c.defAt G 21 21 rfl rfl,
    c.defAt G 22 22 rfl rfl,
    c.defAt G 23 23 rfl rfl,
    c.defAt G 24 24 rfl rfl,
    c.defAt G 25 25 rfl rfl,
    c.defAt G 26 26 rfl rfl,
    c.defAt G 27 27 rfl rfl,
    c.defAt G 28 28 rfl rfl,
    c.defAt G 29 29 rfl rfl,
    c.defAt G 30 30 rfl rfl,
    c.defAt G 31 31 rfl rfl,
    ⟨_, He.glo_ok c.kin G (c.fact 46 (f := fun K => (He.Fa.glo "VoteError").ok K) rfl)⟩,
    ⟨_, He.glo_ok c.kin G (c.fact 47 (f := fun K => (He.Fa.glo "BadNames").ok K) rfl)⟩,
    ⟨_, He.glo_ok c.kin G (c.fact 48 (f := fun K => (He.Fa.glo "BadRule").ok K) rfl)⟩,
    ⟨_, He.glo_ok c.kin G (c.fact 49 (f := fun K => (He.Fa.glo "Rule").ok K) rfl)⟩,
    go 0 _ rfl xs_BadNames,
    fun C hC => (ax "BadNames" "value" C (by decide +kernel) hC).1.exC,
    go 1 _ rfl xs_BadRule,
    fun C hC => (ax "BadRule" "place" C (by decide +kernel) hC).1.exC,
    He.int_ok c.kin G (c.fact 50 (f := fun K => (He.Fa.int "LEAST_NAMES" 2).ok K) rfl),
    He.int_ok c.kin G (c.fact 51 (f := fun K => (He.Fa.int "MOST_NAMES" 4).ok K) rfl),
    He.int_ok c.kin G (c.fact 52 (f := fun K => (He.Fa.int "MOST_LETTERS" 8).ok K) rfl),
    He.str_ok c.kin G (c.fact 53 (f := fun K => (He.Fa.str "LETTERS" "abcdefghijklmnopqrstuvwxyz").ok K) rfl),
    He.int_ok c.kin G (c.fact 54 (f := fun K => (He.Fa.int "MOST_PART" 100).ok K) rfl),
    T.at c.kin G TB (x := "_law_with_right") (st := s_law_with_right) (by decide +kernel) (c.defAt G 30 30 rfl rfl),
    T.at c.kin G TB (x := "law") (st := s_law) (by decide +kernel) (c.defAt G 31 31 rfl rfl),
    nfB_ok c.kin G (c.fact 55 (f := nfB "Rule") rfl),
    attOB_ok c.kin G (c.fact 56 (f := attOB) rfl),
    ax,
    exsB_ok c.kin G (c.fact 58 (f := exsB) rfl),
    isiB_ok c.kin G (c.fact 59 (f := isi1) rfl) (c.fact 60 (f := isi2) rfl)⟩
end Kk04

set_option Elab.async false
set_option linter.all false
set_option maxRecDepth 100000
set_option maxHeartbeats 0
namespace Kk04
open PySem L2 DL PySem.Spec PyProof.Rows
abbrev RO : PySem.W.OpenRow := PySem.W.OpenLaw.row PySem.Challenge.rw_handedvotes_k04_whole_rules_made
abbrev hk : PySem.W.Hook := hookT 5 mf fa fn xn tf
def ob (s : PySem.W.SharedT) : AlT := obsTG 5 mf fa fn xn tf (HandSHeadRun.getT s)
theorem ob_eq (s : PySem.W.SharedT) : ob s = hk.obs s.abs := obsTG_eq (HandSHeadRun.getT_eq s)
def loose : List Str := (["VoteError", "BadNames", "BadRule", "LEAST_NAMES", "MOST_NAMES", "MOST_LETTERS", "LETTERS", "is_word"] : List Str) ++ (["is_number", "is_among", "are_rising", "need_names", "MOST_PART", "is_quota", "is_hand", "is_order"] : List Str) ++ (["Rule", "units", "_law_begun", "_law_next", "_law_names", "_law_is_whole", "_law_is_name", "_law_odd"] : List Str) ++ (["_law_bent", "_law_many", "_law_kinds", "_law_some_kinds", "_law_order", "_law_rule", "_law_units", "_law_first"] : List Str) ++ (["_law_stages", "_law_winners", "_law_course", "_law_wrong", "_law_told", "_law_near", "_law_equals_right", "_law_with_right"] : List Str)
theorem run (w : World) : HandSHeadRun.RunEq RO (PySem.W.view RO.prog [44]) hk ob 4000 loose w := by
  intro os
  kernel_rfl
end Kk04

set_option Elab.async false
set_option linter.all false
set_option maxRecDepth 100000
set_option maxHeartbeats 1000000
namespace DL
open PySem L2 PySem.W PyProof.Rows
@[simp] theorem ite_ok {α : Type} {c : Prop} [Decidable c] {a b : α} {s : Ds} : (if c then Out.ok a s else Out.ok b s) = Out.ok (if c then a else b) s := by split <;> rfl
@[simp] theorem ite_bl {c : Prop} [Decidable c] {a b : Bool} : (if c then D.bl a else D.bl b) = D.bl (if c then a else b) := by split <;> rfl
/-! ### order and sorting -/
abbrev ltD (a b : D) : Bool := dataLt a.py b.py
theorem ltD_irrefl (a : D) : ltD a a = false := (listOrd itemOrd).irrefl _
theorem ltD_trans {a b c : D} (h1 : ltD a b = true) (h2 : ltD b c = true) : ltD a c = true := (listOrd itemOrd).trans _ _ _ h1 h2
theorem ltD_asymm {a b : D} (h1 : ltD a b = true) : ltD b a = false := by
  cases h : ltD b a with
  | false => rfl
  | true => have := ltD_trans h1 h; rw [ltD_irrefl] at this; cases this
theorem dataLe_ltD (a b : D) : dataLe false D.py a b = !ltD b a := rfl
theorem sortD_perm (ds : List D) : (sortD ds).Perm ds := List.mergeSort_perm _ _
theorem sortD_le (ds : List D) : (sortD ds).Pairwise (fun a b => ltD b a = false) := by
  have T := sortLe_total (listOrd itemOrd) false (fun b : D => keyToks b.py)
  have := List.pairwise_mergeSort (le := dataLe false D.py) (fun a b c => T.trans a b c) (fun a b => Bool.or_eq_true_iff.mpr (T.total a b)) ds
  refine this.imp fun {a b} h => ?_
  rw [dataLe_ltD] at h
  simpa using h
/-- an ascending arrangement is the sorted one -/
theorem sortD_eq {ds xs : List D} (hp : xs.Perm ds) (hs : xs.Pairwise (fun a b => ltD a b = true)) : sortD ds = xs := by
  have h1 : (sortD ds).Perm xs := (sortD_perm ds).trans hp.symm
  have h2 : xs.Pairwise (fun a b => ltD b a = false) := hs.imp fun h => ltD_asymm h
  refine List.Perm.eq_of_pairwise (le := fun a b => ltD b a = false) ?_ (sortD_le ds) h2 h1
  intro a b ha hb hab hba
  have ha' : a ∈ xs := h1.subset ha
  by_cases e : a = b
  · exact e
  · exfalso
    have key : ∀ {l : List D}, l.Pairwise (fun a b => ltD a b = true) → ∀ {x y : D}, x ∈ l → y ∈ l → x ≠ y → ltD x y = true ∨ ltD y x = true := by
      intro l
      induction l with
      | nil => intro _ x y hx; cases hx
      | cons c r ih =>
        intro hl x y hx hy hne
        obtain ⟨h3, h4⟩ := List.pairwise_cons.mp hl
        rcases List.mem_cons.mp hx with ex | hx1
        · rcases List.mem_cons.mp hy with ey | hy1
          · exact absurd (ex.trans ey.symm) hne
          · rw [ex]; exact .inl (h3 y hy1)
        · rcases List.mem_cons.mp hy with ey | hy1
          · rw [ey]; exact .inr (h3 x hx1)
          · exact ih h4 hx1 hy1 hne
    rcases key hs ha' hb e with h | h
    · rw [hba] at h; cases h
    · rw [hab] at h; cases h
/-- things that are all different to < sort to an ascending list -/
theorem sortD_lt {ds : List D} (hn : ds.Pairwise (fun a b => ltD a b = true ∨ ltD b a = true)) : (sortD ds).Pairwise (fun a b => ltD a b = true) := by
  have h1 : (sortD ds).Pairwise (fun a b => ltD a b = true ∨ ltD b a = true) := (List.Perm.pairwise_iff (fun h => h.symm) (sortD_perm ds)).mpr hn
  have h2 := sortD_le ds
  have := h1.and h2
  refine this.imp fun {a b} ⟨x, y⟩ => ?_
  rcases x with x | x
  · exact x
  · rw [y] at x; cases x
theorem ltD_str (x y : Str) : ltD (.str x) (.str y) = decide (x.cps.toList < y.cps.toList) := by
  show PyProof.Rows.lexLt itemOrd [.inr x.cps.toList] [.inr y.cps.toList] = _
  rw [lex_cons]
  show (strKind.blt x.cps.toList y.cps.toList || (!strKind.blt y.cps.toList x.cps.toList && false)) = _
  rw [Bool.and_false, Bool.or_false]
theorem sortOk_strs (xs : List Str) : sortOk (xs.map D.str) = true := by
  unfold sortOk
  simp [D.pure, D.py, PyData.depth, alike, sortable1, sortable2, List.all_map]
abbrev tupS (xs : List Str) : D := .tup (xs.map D.str)
abbrev ltS (x y : Str) : Prop := x.cps.toList < y.cps.toList
theorem ltS_tri (x y : Str) (h : x ≠ y) : ltS x y ∨ ltS y x := by
  have h' : x.cps.toList ≠ y.cps.toList := fun e => h (str_of_cps e)
  by_cases h1 : x.cps.toList < y.cps.toList
  · exact .inl h1
  · by_cases h2 : y.cps.toList < x.cps.toList
    · exact .inr h2
    · exact absurd (List.le_antisymm (List.not_lt.mp h2) (List.not_lt.mp h1)) h'
end DL

set_option Elab.async false
set_option linter.all false
set_option maxRecDepth 100000
set_option maxHeartbeats 1000000
namespace DL
open PySem L2 PySem.W PyProof.Rows
/-! ### texts as lists of codes -/
def mkS (l : List Nat) : Str := ⟨l.toArray⟩
theorem mkS_cps (x : Str) : mkS x.cps.toList = x := rfl
@[simp] theorem cps_mkS (l : List Nat) : (mkS l).cps.toList = l := rfl
@[simp] theorem len_mkS (l : List Nat) : (mkS l).length = l.length := rfl
theorem app_mkS (l m : List Nat) : mkS l ++ mkS m = mkS (l ++ m) := by
  show (⟨l.toArray ++ m.toArray⟩ : Str) = ⟨(l ++ m).toArray⟩
  simp
theorem mkS_inj {l m : List Nat} (h : mkS l = mkS m) : l = m := by
  have := congrArg (fun x : Str => x.cps.toList) h
  exact this
theorem one_mkS (c : Nat) : (⟨#[c]⟩ : Str) = mkS [c] := rfl
def cutL {α : Type} (l : List α) (lo hi : Option Int) : List α := (l.drop (HT.sIx l.length 0 lo)).take (HT.sIx l.length l.length hi - HT.sIx l.length 0 lo)
theorem cutS_mkS (l : List Nat) (lo hi : Option Int) : cutS (mkS l) lo hi = mkS (cutL l lo hi) := by
  rfl
end DL
namespace DL
open PySem L2 PySem.W PyProof.Rows
abbrev LET : Str := "abcdefghijklmnopqrstuvwxyz"
theorem let_codes : LET.cps.toList = List.range' 97 26 := by decide +kernel
def isLet (c : Nat) : Prop := 97 ≤ c ∧ c ≤ 122
theorem mem_let {c : Nat} : c ∈ LET.cps.toList ↔ isLet c := by
  rw [let_codes, List.mem_range'_1]
  unfold isLet; omega
theorem sz {n : Nat} (h : n ≤ 1000) : n ≤ sizeLine := Nat.le_trans h (by decide)
theorem atI_nat {α : Type} (l : List α) (i : Nat) (h : i < l.length) : atI l (i : Int) = some l[i] := by
  unfold atI ixN
  rw [if_pos (by omega), if_pos (by omega)]
  show l[((i : Int)).toNat]? = _
  rw [Int.toNat_natCast, List.getElem?_eq_getElem h]
theorem atI_int {α : Type} (l : List α) {r : Int} (h0 : 0 ≤ r) (h1 : r < l.length) : ∃ x, atI l r = some x ∧ x ∈ l := by
  obtain ⟨i, rfl⟩ := Int.eq_ofNat_of_zero_le h0
  exact ⟨_, atI_nat l i (by omega), List.getElem_mem _⟩
theorem let_ix {r : Int} (h0 : 0 ≤ r) (h1 : r < 26) : oIx' (.str LET) (.int r) = some (.str (mkS [97 + r.toNat])) := by
  obtain ⟨i, rfl⟩ := Int.eq_ofNat_of_zero_le h0
  show (if LET.length ≤ sizeLine then (atI LET.cps.toList (i : Int)).map fun c => D.str ⟨#[c]⟩ else none) = _
  rw [if_pos (by decide +kernel), let_codes, atI_nat _ i (by simp; omega)]
  simp [one_mkS]
theorem add_mkS {l m : List Nat} (h : l.length + m.length ≤ 1000) : oAdd' (.str (mkS l)) (.str (mkS m)) = some (.str (mkS (l ++ m))) := by
  show (if (mkS l).length + (mkS m).length ≤ sizeLine then some (D.str (mkS l ++ mkS m)) else none) = _
  rw [len_mkS, len_mkS, if_pos (sz h), app_mkS]
theorem cut_mkS {l : List Nat} {lo hi : Option Int} (h : l.length ≤ 1000) : oCut (.str (mkS l)) lo hi = some (.str (mkS (cutL l lo hi))) := by
  show (if (mkS l).length ≤ sizeLine then some (D.str (cutS (mkS l) lo hi)) else none) = _
  rw [len_mkS, if_pos (sz h), cutS_mkS]
theorem cutL_to {α : Type} (l : List α) (k : Nat) : cutL l none (some (k : Int)) = l.take k := by
  unfold cutL
  rw [HT.sIx_none, HT.sIx_nat]
  simp only [List.drop_zero, Nat.sub_zero]
  rcases Nat.le_total k l.length with h | h
  · rw [Nat.min_eq_left h]
  · rw [Nat.min_eq_right h, List.take_of_length_le (Nat.le_refl _), List.take_of_length_le h]
theorem cutL_from {α : Type} (l : List α) (k : Nat) : cutL l (some (k : Int)) none = l.drop k := by
  unfold cutL
  rw [HT.sIx_none, HT.sIx_nat]
  rcases Nat.le_total k l.length with h | h
  · rw [Nat.min_eq_left h, List.take_of_length_le (by simp)]
  · rw [Nat.min_eq_right h, List.drop_of_length_le (Nat.le_refl _), List.drop_of_length_le h]; simp
theorem mul_mkS {c : Nat} {k : Nat} (h1 : 2 ≤ k) (h2 : k ≤ 100) : oMul' (.str (mkS [c])) (.int k) = some (.str (mkS (List.replicate k c))) := by
  have e1 : ((k : Int) == 1 || (mkS [c]).length == 0) = false := by
    have : ((k : Int) == 1) = false := by apply Bool.eq_false_iff.mpr; intro z; have := beq_iff_eq.mp z; omega
    rw [this]; rfl
  have hm : PySem.MulOk (mkS [c]) k := by
    refine ⟨?_, fun _ _ => ?_, fun _ _ => ?_⟩
    · simp; omega
    · show ¬ ((1 : Nat) : Int) > (2 ^ 63 - 1) / (k : Int)
      have : (1 : Int) ≤ (2 ^ 63 - 1) / (k : Int) := (Int.le_ediv_iff_mul_le (by omega)).mpr (by omega)
      omega
    · show PySem.Builtin.Str.tooLong (1 * (k : Int).toNat) = false
      rw [Nat.one_mul, Int.toNat_natCast]
      unfold PySem.Builtin.Str.tooLong
      have : k < 1000 := by omega
      simp
      exact Nat.le_trans h2 (by decide)
  show (if PySem.MulOk (mkS [c]) (k : Int) then some (D.str (Txt.mul (mkS [c]) k)) else none) = _
  rw [if_pos hm]
  unfold Txt.mul
  rw [if_neg (by omega), if_neg (by rw [e1]; simp)]
  congr 2
  have go : ∀ (n : Nat) (acc : List Nat), (List.replicate n (mkS [c]).cps).foldl (· ++ ·) acc.toArray = (acc ++ List.replicate n c).toArray := by
    intro n
    induction n with
    | zero => intro acc; simp
    | succ n ih =>
      intro acc
      rw [List.replicate_succ, List.foldl_cons]
      have : acc.toArray ++ (mkS [c]).cps = (acc ++ [c]).toArray := by
        show acc.toArray ++ [c].toArray = _
        simp
      rw [this, ih, List.replicate_succ]
      simp
  have := go k []
  simp only [List.nil_append] at this
  show (⟨(List.replicate (k : Int).toNat (mkS [c]).cps).foldl (· ++ ·) #[]⟩ : Str) = ⟨(List.replicate k c).toArray⟩
  rw [Int.toNat_natCast, this]
theorem oMul_ii {i j : Int} (h0 : -1000000 ≤ i) (h1 : i ≤ 1000000) : oMul' (.int i) (.int j) = some (.int (i * j)) := by
  have h : mulOk i j = true := by
    unfold mulOk
    have : i.natAbs < 2 ^ 64 := Nat.lt_of_le_of_lt (show i.natAbs ≤ 1000000 by omega) (by decide)
    simp only [this, decide_true, Bool.true_or]
  unfold oMul'
  simp only [h, if_true]
theorem oMod_ii {i j : Int} (h0 : 0 < j) : oMod' (.int i) (.int j) = some (.int (i % j)) := by
  unfold oMod' oI
  simp only [h0, if_true]
structure IsWord (l : List Nat) : Prop where
  ge : 1 ≤ l.length
  le : l.length ≤ 8
  ok : ∀ c ∈ l, isLet c
abbrev sD (l : List Nat) : D := .str (mkS l)
end DL

set_option Elab.async false
set_option linter.all false
set_option maxRecDepth 100000
set_option maxHeartbeats 1000000
namespace DL
open PySem L2 PySem.W PyProof.Rows
/-! ### plain things and how they are shown -/
def isTx (c : Nat) : Prop := 32 ≤ c ∧ c < 127 ∧ c ≠ 39 ∧ c ≠ 92
def Pl : Nat → D → Prop
  | _, .non => True
  | _, .bl _ => True
  | _, .int i => i.natAbs < 10 ^ 40
  | _, .str x => ∀ c ∈ x.cps.toList, isTx c
  | _, .dct kvs => kvs = []
  | k + 1, .tup ds => ∀ d ∈ ds, Pl k d
  | k + 1, .lst ds => ∀ d ∈ ds, Pl k d
  | _, _ => False
mutual
def wt : D → Nat
  | .int _ => 50
  | .str x => x.length + 2
  | .tup ds => wts ds + 3
  | .lst ds => wts ds + 2
  | _ => 5
def wts : List D → Nat
  | [] => 0
  | d :: r => wt d + 2 + wts r
end
theorem wts_append (a b : List D) : wts (a ++ b) = wts a + wts b := by
  induction a with
  | nil => simp [wts]
  | cons x r ih => simp [wts, ih]; omega
theorem wts_len (a : List D) : 2 * a.length ≤ wts a := by
  induction a with
  | nil => simp [wts]
  | cons x r ih => simp [wts]; omega
theorem wts_mem {d : D} {a : List D} (h : d ∈ a) : wt d + 2 ≤ wts a := by
  induction a with
  | nil => cases h
  | cons x r ih =>
    simp only [wts]
    rcases List.mem_cons.mp h with rfl | h
    · omega
    · have := ih h; omega
theorem wts_rev (a : List D) : wts a.reverse = wts a := by
  induction a with
  | nil => rfl
  | cons x r ih => rw [List.reverse_cons, wts_append, ih]; simp [wts]; omega
theorem wts_cut (a : List D) (n : Nat) : wts (a.take n) + wts (a.drop n) = wts a := by rw [← wts_append, List.take_append_drop]
theorem log_of_lt {n : Nat} (h : n < 10 ^ 40) : n.log2 < 1920 := by
  rcases Nat.eq_zero_or_pos n with h0 | h0
  · rw [h0]; decide
  · have h1 : n < 2 ^ 1920 := Nat.lt_trans h (by decide +kernel)
    exact (Nat.log2_lt (by omega)).mpr h1
theorem pl_rps {k : Nat} (ih : ∀ d, Pl k d → d.rp = true) : ∀ ds : List D, (∀ d ∈ ds, Pl k d) → D.rps ds = true
  | [], _ => rfl
  | d :: r, h => by
    show (d.rp && D.rps r) = true
    rw [ih d (h d (List.mem_cons_self ..)), pl_rps ih r fun x m => h x (List.mem_cons_of_mem _ m)]; rfl
theorem pl_rp : ∀ (k : Nat) (d : D), Pl k d → d.rp = true := by
  intro k
  induction k with
  | zero =>
    intro d h
    cases d <;> first | rfl | (unfold Pl at h; exact h.elim) | skip
    · exact decide_eq_true (log_of_lt h)
    · unfold Pl at h; subst h; rfl
  | succ k ih =>
    intro d h
    cases d <;> first | rfl | (unfold Pl at h; exact h.elim) | skip
    · exact decide_eq_true (log_of_lt h)
    · exact pl_rps ih _ h
    · exact pl_rps ih _ h
    · unfold Pl at h; subst h; rfl
theorem pl_deps {k n : Nat} (ih : ∀ d, Pl k d → d.py.depth ≤ n) : ∀ ds : List D, (∀ d ∈ ds, Pl k d) → PyData.depthAll (D.pys ds) ≤ n
  | [], _ => Nat.zero_le _
  | d :: r, h => by
    show max d.py.depth (PyData.depthAll (D.pys r)) ≤ n
    exact Nat.max_le.mpr ⟨ih d (h d (List.mem_cons_self ..)), pl_deps ih r fun x m => h x (List.mem_cons_of_mem _ m)⟩
theorem pl_depth : ∀ (k : Nat) (d : D), Pl k d → d.py.depth ≤ k + 1 := by
  intro k
  induction k with
  | zero =>
    intro d h
    cases d <;> first | exact Nat.zero_le _ | (unfold Pl at h; exact h.elim) | skip
    · unfold Pl at h; subst h; exact Nat.le_refl _
  | succ k ih =>
    intro d h
    cases d <;> first | exact Nat.zero_le _ | (unfold Pl at h; exact h.elim) | skip
    · exact Nat.succ_le_succ (pl_deps ih _ h)
    · exact Nat.succ_le_succ (pl_deps ih _ h)
    · unfold Pl at h; subst h; exact Nat.succ_le_succ (Nat.zero_le _)
theorem Pl.mono : ∀ {k n : Nat} {d : D}, k ≤ n → Pl k d → Pl n d := by
  intro k
  induction k with
  | zero =>
    intro n d _ h
    cases n <;> cases d <;> first | exact h | (unfold Pl at h; exact h.elim)
  | succ k ih =>
    intro n d hn h
    obtain ⟨m, rfl⟩ : ∃ m, n = m + 1 := ⟨n - 1, by omega⟩
    cases d <;> first | exact h | (unfold Pl at h; exact h.elim) | skip
    · exact fun x m => ih (by omega) (h x m)
    · exact fun x m => ih (by omega) (h x m)
/-! the text -/
def sc (d : D) : List Nat := d.py.shown.cps.toList
theorem sc_shown (d : D) : d.py.shown = mkS (sc d) := rfl
def jn : List (List Nat) → List Nat
  | [] => []
  | [x] => x
  | x :: y :: r => x ++ 44 :: 32 :: jn (y :: r)
theorem join_jn : ∀ ts : List Str, (Str.join ", " ts).cps.toList = jn (ts.map fun t => t.cps.toList)
  | [] => rfl
  | [x] => rfl
  | x :: y :: r => by
    rw [join_cons_cons, cps_toList_append, cps_toList_append, join_jn (y :: r)]
    have : ((", " : String) : Str).cps.toList = [44, 32] := by decide +kernel
    rw [this, List.append_assoc]; rfl
theorem shownAll_pys (ds : List D) : (PyData.shownAll (D.pys ds)).map (fun t => t.cps.toList) = ds.map sc := by
  induction ds with
  | nil => rfl
  | cons d r ih =>
    show ((PyData.shownAll (d.py :: D.pys r)).map _) = _
    rw [PyData.shownAll_cons, List.map_cons, ih]; rfl
theorem pys_len (ds : List D) : (D.pys ds).length = ds.length := by rw [pys_map, List.length_map]
theorem sc_tup (ds : List D) : sc (.tup ds) = 40 :: (jn (ds.map sc) ++ if ds.length = 1 then [44, 41] else [41]) := by
  show (PyData.shown (.tuple (D.pys ds))).cps.toList = _
  rw [PyData.shown_tuple, cps_toList_append, cps_toList_append, join_jn, shownAll_pys, pys_len]
  have e1 : (("(" : String) : Str).cps.toList = [40] := by decide +kernel
  have e2 : (((if ds.length == 1 then ",)" else ")" : String)) : Str).cps.toList = if ds.length = 1 then [44, 41] else [41] := by
    by_cases h : ds.length = 1
    · rw [if_pos h, h]; decide +kernel
    · have : (ds.length == 1) = false := by simpa using h
      rw [if_neg h, this]; decide +kernel
  rw [e1, e2]; rfl
theorem sc_lst (ds : List D) : sc (.lst ds) = 91 :: (jn (ds.map sc) ++ [93]) := by
  show (PyData.shown (.list (D.pys ds))).cps.toList = _
  rw [PyData.shown_list, cps_toList_append, cps_toList_append, join_jn, shownAll_pys]
  have e1 : (("[" : String) : Str).cps.toList = [91] := by decide +kernel
  have e2 : (("]" : String) : Str).cps.toList = [93] := by decide +kernel
  rw [e1, e2]; rfl
theorem printable : ∀ c < 127, 32 ≤ c → Unicode.isPrintable c = true := by decide +kernel
theorem reprChar_tx {c : Nat} (h : isTx c) : Builtin.Str.reprChar 39 c = [c] := by
  obtain ⟨h1, h2, h3, h4⟩ := h
  unfold Builtin.Str.reprChar
  have e1 : (c == 39 || c == 92) = false := by simp [h3, h4]
  have e2 : (c == 10) = false := by simp; omega
  have e3 : (c == 13) = false := by simp; omega
  have e4 : (c == 9) = false := by simp; omega
  simp only [e1, e2, e3, e4, printable c h2 h1, if_true, if_false, Bool.false_eq_true]
theorem sc_str {x : Str} (h : ∀ c ∈ x.cps.toList, isTx c) : sc (.str x) = 39 :: (x.cps.toList ++ [39]) := by
  show (PyData.shown (.str x)).cps.toList = _
  rw [PyData.shown_str]
  have hq : reprQuote x = 39 := by
    unfold reprQuote
    have : x.cps.contains 39 = false := by
      apply Bool.eq_false_iff.mpr
      intro z
      have := (h 39 (by simpa using z)).2.2.1
      exact this rfl
    rw [this]; rfl
  unfold reprText
  rw [hq]
  have go : ∀ (l : List Nat) (acc : Array Nat), (∀ c ∈ l, isTx c) → l.foldl (fun out c => out ++ (Builtin.Str.reprChar 39 c).toArray) acc = acc ++ l.toArray := by
    intro l
    induction l with
    | nil => intro acc _; simp
    | cons c r ih =>
      intro acc hl
      rw [List.foldl_cons, ih _ fun d m => hl d (List.mem_cons_of_mem _ m), reprChar_tx (hl c (List.mem_cons_self ..))]
      apply Array.toList_inj.mp
      simp
  have e : x.cps.foldl (fun out c => out ++ (Builtin.Str.reprChar 39 c).toArray) #[39] = #[39] ++ x.cps.toList.toArray := by
    rw [← Array.foldl_toList]; exact go _ _ h
  rw [e]
  simp
theorem sc_non : sc .non = [78, 111, 110, 101] := by decide +kernel
theorem sc_true : sc (.bl true) = [84, 114, 117, 101] := by decide +kernel
theorem sc_false : sc (.bl false) = [70, 97, 108, 115, 101] := by decide +kernel
theorem sc_dct : sc (.dct []) = [123, 125] := by decide +kernel
theorem sc_int (i : Int) : sc (.int i) = (toString i).toList.map Char.toNat := by
  show (PyData.shown (.int i)).cps.toList = _
  rw [PyData.shown_int]
  exact signs_ofString _
theorem sc_int_ok (i : Int) : sc (.int i) ≠ [] ∧ ∀ c ∈ sc (.int i), c = 45 ∨ (48 ≤ c ∧ c ≤ 57) := by
  rw [sc_int]
  constructor
  · intro z
    have : (toString i).toList = [] := List.map_eq_nil_iff.mp z
    rw [Int.toString_eq_repr, Int.repr_eq_if] at this
    split at this
    · rw [Nat.toList_repr] at this; exact Nat.toDigits_ne_nil this
    · rw [String.toList_append] at this
      have := (List.append_eq_nil_iff.mp this).2
      rw [Nat.toList_repr] at this; exact Nat.toDigits_ne_nil this
  · intro c hc
    obtain ⟨ch, hm, rfl⟩ := List.mem_map.mp hc
    rcases int_sign i ch hm with h | h
    · exact .inr (digit_range h)
    · subst h; exact .inl rfl
theorem sc_int_len {i : Int} (h : i.natAbs < 10 ^ 40) : (sc (.int i)).length ≤ 41 := by
  rw [sc_int, List.length_map, String.length_toList]
  exact int_text_length_le10 (by decide) h
end DL

set_option Elab.async false
set_option linter.all false
set_option maxRecDepth 100000
set_option maxHeartbeats 1000000
namespace DL
open PySem L2 PySem.W PyProof.Rows
theorem jn_len : ∀ ds : List D, (∀ d ∈ ds, (sc d).length ≤ wt d) → (jn (ds.map sc)).length ≤ wts ds
  | [], _ => Nat.zero_le _
  | [d], h => by have := h d (List.mem_cons_self ..); simp [jn, wts]; omega
  | d :: e :: r, h => by
    have h1 := h d (List.mem_cons_self ..)
    have h2 := jn_len (e :: r) fun x m => h x (List.mem_cons_of_mem _ m)
    show (sc d ++ 44 :: 32 :: jn ((e :: r).map sc)).length ≤ wt d + 2 + wts (e :: r)
    simp only [List.length_append, List.length_cons]
    omega
theorem sc_len : ∀ (k : Nat) (d : D), Pl k d → (sc d).length ≤ wt d := by
  intro k
  induction k with
  | zero =>
    intro d h
    cases d <;> first | (unfold Pl at h; exact h.elim) | skip
    · decide +kernel
    · rename_i b; cases b <;> decide +kernel
    · exact Nat.le_trans (sc_int_len h) (show 41 ≤ 50 by decide)
    · rw [sc_str h]; simp [wt, Str.length]
    · unfold Pl at h; subst h; decide +kernel
  | succ k ih =>
    intro d h
    cases d <;> first | (unfold Pl at h; exact h.elim) | skip
    · decide +kernel
    · rename_i b; cases b <;> decide +kernel
    · exact Nat.le_trans (sc_int_len h) (show 41 ≤ 50 by decide)
    · rw [sc_str h]; simp [wt, Str.length]
    · rename_i ds
      have := jn_len ds fun d m => ih d (h d m)
      rw [sc_tup]
      simp only [List.length_cons, List.length_append, wt]
      split <;> simp <;> omega
    · rename_i ds
      have := jn_len ds fun d m => ih d (h d m)
      rw [sc_lst]
      simp only [List.length_cons, List.length_append, wt, List.length_nil]
      omega
    · unfold Pl at h; subst h; decide +kernel
theorem jn_all {P : Nat → Prop} (h44 : P 44) (h32 : P 32) : ∀ ls : List (List Nat), (∀ l ∈ ls, ∀ c ∈ l, P c) → ∀ c ∈ jn ls, P c
  | [], _, c, m => by cases m
  | [l], h, c, m => h l (List.mem_cons_self ..) c m
  | l :: e :: r, h, c, m => by
    have m' : c ∈ l ++ 44 :: 32 :: jn (e :: r) := m
    rcases List.mem_append.mp m' with m | m
    · exact h l (List.mem_cons_self ..) c m
    · rcases List.mem_cons.mp m with rfl | m
      · exact h44
      · rcases List.mem_cons.mp m with rfl | m
        · exact h32
        · exact jn_all h44 h32 (e :: r) (fun x z => h x (List.mem_cons_of_mem _ z)) c m
theorem sc_ok : ∀ (k : Nat) (d : D), Pl k d → ∀ c ∈ sc d, c < 127 := by
  intro k
  induction k with
  | zero =>
    intro d h
    cases d <;> first | (unfold Pl at h; exact h.elim) | skip
    · decide +kernel
    · rename_i b; cases b <;> decide +kernel
    · intro c hc; rcases (sc_int_ok _).2 c hc with h | h <;> omega
    · rw [sc_str h]
      intro c hc
      rcases List.mem_cons.mp hc with rfl | hc
      · decide
      · rcases List.mem_append.mp hc with hc | hc
        · exact (h c hc).2.1
        · rw [List.mem_singleton.mp hc]; decide
    · unfold Pl at h; subst h; decide +kernel
  | succ k ih =>
    intro d h
    cases d <;> first | (unfold Pl at h; exact h.elim) | skip
    · decide +kernel
    · rename_i b; cases b <;> decide +kernel
    · intro c hc; rcases (sc_int_ok _).2 c hc with h | h <;> omega
    · rw [sc_str h]
      intro c hc
      rcases List.mem_cons.mp hc with rfl | hc
      · decide
      · rcases List.mem_append.mp hc with hc | hc
        · exact (h c hc).2.1
        · rw [List.mem_singleton.mp hc]; decide
    · rename_i ds
      rw [sc_tup]
      intro c hc
      rcases List.mem_cons.mp hc with rfl | hc
      · decide
      · rcases List.mem_append.mp hc with hc | hc
        · refine jn_all (P := (· < 127)) (by decide) (by decide) _ (fun l hl => ?_) c hc
          obtain ⟨d, hd, rfl⟩ := List.mem_map.mp hl
          exact ih d (h d hd)
        · split at hc
          · simp only [List.mem_cons, List.not_mem_nil, or_false] at hc; omega
          · simp only [List.mem_cons, List.not_mem_nil, or_false] at hc; omega
    · rename_i ds
      rw [sc_lst]
      intro c hc
      rcases List.mem_cons.mp hc with rfl | hc
      · decide
      · rcases List.mem_append.mp hc with hc | hc
        · refine jn_all (P := (· < 127)) (by decide) (by decide) _ (fun l hl => ?_) c hc
          obtain ⟨d, hd, rfl⟩ := List.mem_map.mp hl
          exact ih d (h d hd)
        · rw [List.mem_singleton.mp hc]; decide
    · unfold Pl at h; subst h; decide +kernel
/-- the first sign -/
theorem sc_head : ∀ (k : Nat) (d : D), Pl k d → ∃ c r, sc d = c :: r ∧ c ≠ 41 ∧ c ≠ 44 ∧ (c = 39 → ∃ x, d = .str x) ∧ (c = 40 → ∃ ds, d = .tup ds) := by
  intro k d h
  cases d
  case non => exact ⟨_, _, sc_non, by decide, by decide, (fun z => by cases z), (fun z => by cases z)⟩
  case bl b =>
    cases b
    · exact ⟨_, _, sc_false, by decide, by decide, (fun z => by cases z), (fun z => by cases z)⟩
    · exact ⟨_, _, sc_true, by decide, by decide, (fun z => by cases z), (fun z => by cases z)⟩
  case int i =>
    obtain ⟨h1, h2⟩ := sc_int_ok i
    cases q : sc (.int i) with
    | nil => exact absurd q h1
    | cons c r =>
      have := h2 c (by rw [q]; exact List.mem_cons_self ..)
      exact ⟨c, r, rfl, by omega, by omega, fun z => by omega, fun z => by omega⟩
  case str x =>
    have h' : ∀ c ∈ x.cps.toList, isTx c := by cases k <;> exact h
    exact ⟨_, _, sc_str h', by decide, by decide, fun z => ⟨x, rfl⟩, fun z => by cases z⟩
  case tup ds => exact ⟨_, _, sc_tup ds, by decide, by decide, (fun z => by cases z), (fun z => ⟨ds, rfl⟩)⟩
  case lst ds => exact ⟨_, _, sc_lst ds, by decide, by decide, (fun z => by cases z), (fun z => by cases z)⟩
  case dct kvs =>
    have : kvs = [] := by cases k <;> exact h
    subst this
    exact ⟨_, _, sc_dct, by decide, by decide, (fun z => by cases z), (fun z => by cases z)⟩
  all_goals (exfalso; cases k <;> exact h)
/-- tuples and texts alone -/
def Ts : Nat → D → Prop
  | _, .str x => ∀ c ∈ x.cps.toList, isTx c
  | k + 1, .tup ds => ∀ d ∈ ds, Ts k d
  | _, _ => False
theorem Ts.pl : ∀ {k : Nat} {d : D}, Ts k d → Pl k d := by
  intro k
  induction k with
  | zero => intro d h; cases d <;> first | exact h | (unfold Ts at h; exact h.elim)
  | succ k ih => intro d h; cases d <;> first | exact h | (unfold Ts at h; exact h.elim) | exact fun x m => ih (h x m)
theorem quote_cut : ∀ (a b r s : List Nat), (∀ c ∈ a, c ≠ 39) → (∀ c ∈ b, c ≠ 39) → a ++ 39 :: r = b ++ 39 :: s → a = b ∧ r = s
  | [], [], r, s, _, _, h => ⟨rfl, (List.cons.inj h).2⟩
  | [], y :: b, r, s, _, hb, h => absurd (List.cons.inj h).1.symm (hb y (List.mem_cons_self ..))
  | x :: a, [], r, s, ha, _, h => absurd (List.cons.inj h).1 (ha x (List.mem_cons_self ..))
  | x :: a, y :: b, r, s, ha, hb, h => by
    obtain ⟨h1, h2⟩ := List.cons.inj h
    obtain ⟨h3, h4⟩ := quote_cut a b r s (fun c m => ha c (List.mem_cons_of_mem _ m)) (fun c m => hb c (List.mem_cons_of_mem _ m)) h2
    exact ⟨by rw [h1, h3], h4⟩
def InjE (e : D) : Prop := ∀ (j : Nat) (d : D) (r r' : List Nat), Pl j d → sc d ++ r = sc e ++ r' → d = e ∧ r = r'
theorem jn_inj : ∀ (es ds : List D) (r r' : List Nat) (j : Nat), (∀ e ∈ es, InjE e) → (∀ d ∈ ds, Pl j d) → es ≠ [] → ds ≠ [] → jn (ds.map sc) ++ 41 :: r = jn (es.map sc) ++ 41 :: r' → ds = es ∧ r = r'
  | [], _, _, _, _, _, _, h, _, _ => absurd rfl h
  | _ :: _, [], _, _, _, _, _, _, h, _ => absurd rfl h
  | [e], [d], r, r', j, he, hd, _, _, h => by
    obtain ⟨h1, h2⟩ := he e (List.mem_cons_self ..) j d _ _ (hd d (List.mem_cons_self ..)) h
    exact ⟨by rw [h1], (List.cons.inj h2).2⟩
  | [e], d :: d2 :: ds, r, r', j, he, hd, _, _, h => by
    have h' : sc d ++ (44 :: 32 :: jn ((d2 :: ds).map sc) ++ 41 :: r) = sc e ++ 41 :: r' := by rw [← List.append_assoc]; exact h
    obtain ⟨h1, h2⟩ := he e (List.mem_cons_self ..) j d _ _ (hd d (List.mem_cons_self ..)) h'
    cases h2
  | e :: e2 :: es, [d], r, r', j, he, hd, _, _, h => by
    have h' : sc d ++ 41 :: r = sc e ++ (44 :: 32 :: jn ((e2 :: es).map sc) ++ 41 :: r') := by rw [← List.append_assoc]; exact h
    obtain ⟨h1, h2⟩ := he e (List.mem_cons_self ..) j d _ _ (hd d (List.mem_cons_self ..)) h'
    cases h2
  | e :: e2 :: es, d :: d2 :: ds, r, r', j, he, hd, _, _, h => by
    have h' : sc d ++ (44 :: 32 :: (jn ((d2 :: ds).map sc) ++ 41 :: r)) = sc e ++ (44 :: 32 :: (jn ((e2 :: es).map sc) ++ 41 :: r')) := by
      have z : (sc d ++ 44 :: 32 :: jn ((d2 :: ds).map sc)) ++ 41 :: r = (sc e ++ 44 :: 32 :: jn ((e2 :: es).map sc)) ++ 41 :: r' := h
      simpa [List.append_assoc] using z
    obtain ⟨h1, h2⟩ := he e (List.mem_cons_self ..) j d _ _ (hd d (List.mem_cons_self ..)) h'
    have h3 := (List.cons.inj (List.cons.inj h2).2).2
    obtain ⟨h4, h5⟩ := jn_inj (e2 :: es) (d2 :: ds) r r' j (fun x m => he x (List.mem_cons_of_mem _ m)) (fun x m => hd x (List.mem_cons_of_mem _ m)) (by simp) (by simp) h3
    exact ⟨by rw [h1, h4], h5⟩
theorem sc_ne41 {j : Nat} {d : D} (h : Pl j d) (r r' : List Nat) : sc d ++ r ≠ 41 :: r' := by
  obtain ⟨c, t, e, h1, _⟩ := sc_head j d h
  rw [e]
  intro z
  exact h1 (List.cons.inj z).1
theorem Ts.inj : ∀ (k : Nat) (e : D), Ts k e → InjE e := by
  intro k
  induction k with
  | zero =>
    intro e he
    cases e <;> first | (unfold Ts at he; exact he.elim) | skip
    rename_i x
    intro j d r r' hd h
    rw [sc_str he] at h
    obtain ⟨c, t, hc, _, _, h39, _⟩ := sc_head j d hd
    rw [hc] at h
    obtain ⟨y, rfl⟩ := h39 (List.cons.inj h).1
    have hy : ∀ c ∈ y.cps.toList, isTx c := by cases j <;> exact hd
    rw [← hc, sc_str hy] at h
    rw [List.cons_append, List.cons_append] at h
    have h2 := (List.cons.inj h).2
    rw [List.append_assoc, List.append_assoc] at h2
    obtain ⟨h3, h4⟩ := quote_cut _ _ _ _ (fun c m => (hy c m).2.2.1) (fun c m => (he c m).2.2.1) h2
    exact ⟨by rw [← mkS_cps y, h3, mkS_cps], h4⟩
  | succ k ih =>
    intro e he
    cases e <;> first | (unfold Ts at he; exact he.elim) | skip
    · rename_i x
      intro j d r r' hd h
      rw [sc_str he] at h
      obtain ⟨c, t, hc, _, _, h39, _⟩ := sc_head j d hd
      rw [hc] at h
      obtain ⟨y, rfl⟩ := h39 (List.cons.inj h).1
      have hy : ∀ c ∈ y.cps.toList, isTx c := by cases j <;> exact hd
      rw [← hc, sc_str hy] at h
      rw [List.cons_append, List.cons_append] at h
      have h2 := (List.cons.inj h).2
      rw [List.append_assoc, List.append_assoc] at h2
      obtain ⟨h3, h4⟩ := quote_cut _ _ _ _ (fun c m => (hy c m).2.2.1) (fun c m => (he c m).2.2.1) h2
      exact ⟨by rw [← mkS_cps y, h3, mkS_cps], h4⟩
    · rename_i es
      intro j d r r' hd h
      rw [sc_tup] at h
      obtain ⟨c, t, hc, _, _, _, h40⟩ := sc_head j d hd
      rw [hc] at h
      obtain ⟨ds, rfl⟩ := h40 (List.cons.inj h).1
      rw [← hc, sc_tup] at h
      rw [List.cons_append, List.cons_append] at h
      have h2 := (List.cons.inj h).2
      rw [List.append_assoc, List.append_assoc] at h2
      obtain ⟨j', hds⟩ : ∃ j', ∀ d ∈ ds, Pl j' d := by
        cases j with
        | zero => exact absurd hd (by unfold Pl; exact id)
        | succ j => exact ⟨j, hd⟩
      have hes : ∀ e ∈ es, InjE e := fun e m => ih e (he e m)
      have hpl : ∀ e ∈ es, Pl k e := fun e m => (he e m).pl
      match es, ds, hes, hds, hpl, h2 with
      | [], [], _, _, _, h2 => exact ⟨rfl, (List.cons.inj h2).2⟩
      | [], [d], _, hds, _, h2 => exact absurd h2 (sc_ne41 (hds d (List.mem_cons_self ..)) _ _)
      | [], d :: d2 :: ds, _, hds, _, h2 =>
        have z : sc d ++ (44 :: 32 :: (jn ((d2 :: ds).map sc) ++ 41 :: r)) = 41 :: r' := by simpa [jn] using h2
        exact absurd z (sc_ne41 (hds d (List.mem_cons_self ..)) _ _)
      | [e], [], _, _, hpl, h2 => exact absurd h2.symm (sc_ne41 (hpl e (List.mem_cons_self ..)) _ _)
      | e :: e2 :: es, [], _, _, hpl, h2 =>
        have z : sc e ++ (44 :: 32 :: (jn ((e2 :: es).map sc) ++ 41 :: r')) = 41 :: r := by simpa [jn] using h2.symm
        exact absurd z (sc_ne41 (hpl e (List.mem_cons_self ..)) _ _)
      | [e], [d], hes, hds, _, h2 =>
        obtain ⟨h3, h4⟩ := hes e (List.mem_cons_self ..) j' d _ _ (hds d (List.mem_cons_self ..)) h2
        refine ⟨by rw [h3], ?_⟩
        simpa using h4
      | [e], d :: d2 :: ds, hes, hds, _, h2 =>
        have z : sc d ++ (44 :: 32 :: (jn ((d2 :: ds).map sc) ++ 41 :: r)) = sc e ++ (44 :: 41 :: r') := by simpa [jn] using h2
        obtain ⟨h3, h4⟩ := hes e (List.mem_cons_self ..) j' d _ _ (hds d (List.mem_cons_self ..)) z
        simp at h4
      | e :: e2 :: es, [d], hes, hds, _, h2 =>
        have z : sc d ++ (44 :: 41 :: r) = sc e ++ (44 :: 32 :: (jn ((e2 :: es).map sc) ++ 41 :: r')) := by simpa [jn] using h2
        obtain ⟨h3, h4⟩ := hes e (List.mem_cons_self ..) j' d _ _ (hds d (List.mem_cons_self ..)) z
        simp at h4
      | e :: e2 :: es, d :: d2 :: ds, hes, hds, _, h2 =>
        have z : jn ((d :: d2 :: ds).map sc) ++ 41 :: r = jn ((e :: e2 :: es).map sc) ++ 41 :: r' := by simpa using h2
        obtain ⟨h3, h4⟩ := jn_inj _ _ r r' j' hes hds (by simp) (by simp) z
        exact ⟨by rw [h3], h4⟩
theorem shown_inj {k j : Nat} {d e : D} (he : Ts k e) (hd : Pl j d) (h : d.py.shown = e.py.shown) : d = e := by
  refine (Ts.inj k e he j d [] [] hd ?_).1
  have : sc d = sc e := by unfold sc; rw [h]
  rw [this]
end DL

set_option Elab.async false
set_option linter.all false
set_option maxRecDepth 100000
set_option maxHeartbeats 1000000
namespace V
open PySem L2 DL
theorem stem_loop {a : Addr} {ob : List (Addr × D)} {m : Int} {Q : Fl → Ds → Prop} {E : Str → List (Str × D) → Ds → Prop} : ∀ (ds : List D) (l : List Nat) (x4 : Option D) (n : Int), (∀ c ∈ l, isLet c) → n + ds.length ≤ 10 ^ 15 → l.length + ds.length ≤ 100 →
    (∀ (l' : List Nat) (y : Option D), l'.length = l.length + ds.length → (∀ c ∈ l', isLet c) → Q (.nx [some (.ref a), some (.int m), some (.str LET), some (sD l'), y, none, none, none, none]) ⟨some (a, n + ds.length), ob⟩) →
    (forF (ogName 4) b_law_names1 ds [some (.ref a), some (.int m), some (.str LET), some (sD l), x4, none, none, none, none] ⟨some (a, n), ob⟩).post Q E
  | [], l, x4, n, hl, _, _, h => by
    have := h l x4 (by simp) hl
    simpa using this
  | d :: r, l, x4, n, hl, hn, hz, h => by
    rw [List.length_cons] at hn hz
    rw [forF_cons]
    simp [b_law_names1]
    refine next_post (by decide) (by decide) (by omega) fun k h0 h1 => ?_
    rw [let_ix h0 h1]
    simp
    rw [add_mkS (by simp; omega)]
    simp
    refine stem_loop r (l ++ [97 + k.toNat]) (some d) (n + 1) ?_ (by omega) (by simp; omega) fun l' y h3 h4 => ?_
    · intro c hc
      rcases List.mem_append.mp hc with hc | hc
      · exact hl c hc
      · simp at hc; subst hc; unfold isLet; omega
    · have := h l' y (by rw [h3]; simp; omega) h4
      rw [show n + 1 + (r.length : Int) = n + ((r.length + 1 : Nat) : Int) by omega]
      exact this
theorem nodup_range {α : Type} {m : Nat} {g : Nat → α} (h : ∀ i j, i < j → j < m → g i ≠ g j) : ((List.range m).map g).Nodup := by
  refine List.pairwise_map.mpr (List.Pairwise.imp_of_mem ?_ List.pairwise_lt_range)
  intro i j hi hj hij
  exact h i j hij (List.mem_range.mp hj)
theorem str_nil : Str.ofString "" = mkS [] := by decide +kernel
theorem names_post {a : Addr} {n : Int} {ob : List (Addr × D)} {m : Nat} {Q : D → Ds → Prop} {E : Str → List (Str × D) → Ds → Prop} (hm : 2 ≤ m) (hm5 : m ≤ 5) (hn : n + 12 ≤ 10 ^ 15)
    (h : ∀ (ns : List (List Nat)) (k : Int), 0 ≤ k → k ≤ 12 → ns.length = m → (∀ l ∈ ns, IsWord l) → ns.Nodup → Q (.lst (ns.map sD)) ⟨some (a, n + k), ob⟩) : (c_law_names [.ref a, .int m] ⟨some (a, n), ob⟩).post Q E := by
  simp [c_law_names, m_law_names]
  refine next_post (by decide) (by decide) (by omega) fun r0 h0 h1 => ?_
  obtain ⟨k0, rfl⟩ := Int.eq_ofNat_of_zero_le h0
  rw [show oRange1 [.int (k0 : Int)] = some _ from oRange1_nat (by omega), str_nil]
  simp
  refine stem_loop _ [] none (n + 1) (by simp) (by simp; omega) (by simp; omega) fun st y hst hle => ?_
  simp at hst
  simp [oLen_str (sz (show (mkS st).length ≤ 1000 by simp; omega))]
  refine next_post (by omega) (by omega) (by omega) fun at_ ha0 ha1 => ?_
  refine next_post (by decide) (by decide) (by omega) fun fi hf0 hf1 => ?_
  simp
  refine next_post (by decide) (by decide) (by omega) fun bi hb0 hb1 => ?_
  obtain ⟨d, hd, hmem⟩ := atI_int [D.int 1, D.int 3, D.int 5, D.int 7, D.int 9, D.int 11] hb0 (by simpa using hb1)
  obtain ⟨b, rfl, hb⟩ : ∃ b : Nat, d = .int b ∧ (b = 1 ∨ b = 3 ∨ b = 5 ∨ b = 7 ∨ b = 9 ∨ b = 11) := by
    simp at hmem
    rcases hmem with rfl | rfl | rfl | rfl | rfl | rfl
    · exact ⟨1, rfl, by simp⟩
    · exact ⟨3, rfl, by simp⟩
    · exact ⟨5, rfl, by simp⟩
    · exact ⟨7, rfl, by simp⟩
    · exact ⟨9, rfl, by simp⟩
    · exact ⟨11, rfl, by simp⟩
  rw [show oIx' (D.lst [D.int 1, D.int 3, D.int 5, D.int 7, D.int 9, D.int 11]) (D.int bi) = some (.int b) from hd]
  obtain ⟨f, rfl⟩ := Int.eq_ofNat_of_zero_le hf0
  obtain ⟨t, rfl⟩ := Int.eq_ofNat_of_zero_le ha0
  have ew : oMul' (.str (mkS [97 + (f : Int).toNat])) (.int 8) = some _ := mul_mkS (c := 97 + (f : Int).toNat) (k := 8) (by decide) (by decide)
  simp [let_ix hf0 hf1]
  simp at ew
  rw [ew]
  simp
  rw [add_mkS (by simp; omega)]
  simp
  rw [show (8 : Int) = ((8 : Nat) : Int) from rfl, cut_mkS (by simp; omega), cutL_to]
  simp
  -- the word
  have wl : (List.take 8 (st ++ [97 + f, 97 + f, 97 + f, 97 + f, 97 + f, 97 + f, 97 + f, 97 + f])).length = 8 := by simp
  have wo : ∀ c ∈ List.take 8 (st ++ [97 + f, 97 + f, 97 + f, 97 + f, 97 + f, 97 + f, 97 + f, 97 + f]), isLet c := by
    intro c hc
    rcases List.mem_append.mp (List.mem_of_mem_take hc) with hc | hc
    · exact hle c hc
    · have : c = 97 + f := by simpa using hc
      subst this; unfold isLet; omega
  generalize List.take 8 (st ++ [97 + f, 97 + f, 97 + f, 97 + f, 97 + f, 97 + f, 97 + f, 97 + f]) = wd at wl wo ⊢
  have ed : n + 1 + (k0 : Int) + 1 + 1 + 1 = n + (1 + (k0 : Int) + 1 + 1 + 1) := by omega
  have m1 : (List.range m).length ≤ sizeLine := sz (by simp; omega)
  have hrg := oRange1_nat (n := m) (by omega)
  by_cases hb5 : 5 < b
  · have c1 : (5 : Int) < (b : Int) ∧ (m : Int) < 9 := by omega
    rw [if_pos c1, mLc_of (List.range m) (fun i => .int (i : Int)) (fun i => sD (if 7 < b then wd.drop i else wd.take (i + 9 - m))) (by simp [hrg]) (fun i hi => ?_) m1]
    · simp only [Out.bind2_ok, Out.post_ok, thenK_rt, flD_rt]
      rw [ed]
      have := h ((List.range m).map fun i => if 7 < b then wd.drop i else wd.take (i + 9 - m)) (1 + (k0 : Int) + 1 + 1 + 1) (by omega) (by omega) (by simp) ?_ ?_
      · rw [List.map_map] at this; exact this
      · intro l hl
        obtain ⟨i, hi, rfl⟩ := List.mem_map.mp hl
        have hi := List.mem_range.mp hi
        split
        · exact ⟨by simp; omega, by simp; omega, fun c hc => wo c (List.mem_of_mem_drop hc)⟩
        · exact ⟨by simp; omega, by simp; omega, fun c hc => wo c (List.mem_of_mem_take hc)⟩
      · refine nodup_range fun i j hij hj e => ?_
        have := congrArg List.length e
        split at this
        · simp at this; omega
        · simp at this; omega
    · have hi := List.mem_range.mp hi
      refine ⟨_, rfl, ?_⟩
      have e9 : (i : Int) + 9 - (m : Int) = ((i + 9 - m : Nat) : Int) := by omega
      by_cases h7 : 7 < b
      · have h7' : (7 : Int) < (b : Int) := by omega
        simp [wipeD, h7, h7']
        rw [cut_mkS (by omega), cutL_from]; rfl
      · have h7' : ¬ (7 : Int) < (b : Int) := by omega
        simp [wipeD, h7, h7']
        rw [e9, cut_mkS (by omega), cutL_to]; rfl
  · have c1 : ¬ ((5 : Int) < (b : Int) ∧ (m : Int) < 9) := by omega
    rw [if_neg c1]
    simp only [Out.post_ok, thenK_nx, mRet_r]
    rw [mLc_of (List.range m) (fun i => .int (i : Int)) (fun i => sD (st.take t ++ [97 + (f + b * i) % 26] ++ st.drop t)) (by simp [hrg]) (fun i hi => ?_) m1]
    · simp only [Out.bind2_ok, Out.post_ok, thenK_rt, flD_rt]
      rw [ed]
      have := h ((List.range m).map fun i => st.take t ++ [97 + (f + b * i) % 26] ++ st.drop t) (1 + (k0 : Int) + 1 + 1 + 1) (by omega) (by omega) (by simp) ?_ ?_
      · rw [List.map_map] at this; exact this
      · intro l hl
        obtain ⟨i, hi, rfl⟩ := List.mem_map.mp hl
        refine ⟨by simp; omega, by simp; omega, fun c hc => ?_⟩
        rcases List.mem_append.mp hc with hc | hc
        · rcases List.mem_append.mp hc with hc | hc
          · exact hle c (List.mem_of_mem_take hc)
          · have : c = 97 + (f + b * i) % 26 := by simpa using hc
            subst this; unfold isLet; omega
        · exact hle c (List.mem_of_mem_drop hc)
      · refine nodup_range fun i j hij hj e => ?_
        have e1 : [97 + (f + b * i) % 26] = [97 + (f + b * j) % 26] := List.append_cancel_left (List.append_cancel_right e)
        have e2 : (f + b * i) % 26 = (f + b * j) % 26 := by simpa using e1
        have hbi : b * i < b * j := Nat.mul_lt_mul_of_pos_left hij (by omega)
        have hbj : b * j ≤ 5 * 4 := Nat.mul_le_mul (by omega) (by omega)
        omega
    · have hi := List.mem_range.mp hi
      refine ⟨_, rfl, ?_⟩
      have hbi : b * i ≤ 5 * 4 := Nat.mul_le_mul (by omega) (by omega)
      have em : oMul' (.int (b : Int)) (.int (i : Int)) = some (.int ((b : Int) * (i : Int))) := oMul_ii (by omega) (by omega)
      have eo : oMod' (.int ((f : Int) + (b : Int) * (i : Int))) (.int 26) = some (.int (((f + b * i) % 26 : Nat) : Int)) := by
        have : oMod' (.int ((f : Int) + (b : Int) * (i : Int))) (.int 26) = some (.int (((f : Int) + (b : Int) * (i : Int)) % 26)) := oMod_ii (by decide)
        rw [this]
        simp
      simp [wipeD, em]
      rw [cut_mkS (by omega), cutL_to]
      simp
      rw [show ((f : Int) + (b : Int) * (i : Int)) = ((f : Int) + (b : Int) * (i : Int)) from rfl, eo]
      simp
      rw [let_ix (by omega) (by omega)]
      simp
      rw [add_mkS (by simp; omega), cut_mkS (by omega), cutL_from]
      simp
      rw [add_mkS (by simp; omega)]
      have et : (((f : Int) + (b : Int) * (i : Int)) % 26).toNat = (f + b * i) % 26 := by
        rw [show ((f : Int) + (b : Int) * (i : Int)) % 26 = (((f + b * i) % 26 : Nat) : Int) by simp, Int.toNat_natCast]
      simp [et]
end V

namespace DL
open PySem L2 PySem.W PyProof.Rows
/-! ### names -/
structure GoodNames (ns : List (List Nat)) : Prop where
  ge : 2 ≤ ns.length
  le : ns.length ≤ 4
  words : ∀ l ∈ ns, IsWord l
  asc : ns.Pairwise (· < ·)
abbrev tS (ns : List (List Nat)) : D := .tup (ns.map sD)
theorem ltD_sD (l m : List Nat) : ltD (sD l) (sD m) = decide (l < m) := ltD_str (mkS l) (mkS m)
theorem list_tri {l m : List Nat} (h : l ≠ m) : l < m ∨ m < l := by
  by_cases h1 : l < m
  · exact .inl h1
  · by_cases h2 : m < l
    · exact .inr h2
    · exact absurd (List.le_antisymm (List.not_lt.mp h2) (List.not_lt.mp h1)) h
def codesOf : D → List Nat
  | .str x => x.cps.toList
  | _ => []
theorem sortD_names {ns : List (List Nat)} (h : ns.Nodup) : ∃ ns' : List (List Nat), ns'.Perm ns ∧ ns'.Pairwise (· < ·) ∧ sortD (ns.map sD) = ns'.map sD := by
  have hp := sortD_perm (ns.map sD)
  have e : ((sortD (ns.map sD)).map codesOf).map sD = sortD (ns.map sD) := by
    rw [List.map_map]
    conv => rhs; rw [← List.map_id (sortD (ns.map sD))]
    refine List.map_congr_left fun d hd => ?_
    obtain ⟨l, _, rfl⟩ := List.mem_map.mp (hp.subset hd)
    rfl
  refine ⟨(sortD (ns.map sD)).map codesOf, ?_, ?_, e.symm⟩
  · have := hp.map codesOf
    rw [List.map_map] at this
    have e2 : ns.map (codesOf ∘ sD) = ns := by
      conv => rhs; rw [← List.map_id ns]
      exact List.map_congr_left fun l _ => rfl
    rwa [e2] at this
  · have h1 : (sortD (ns.map sD)).Pairwise (fun a b => ltD a b = true) := by
      refine sortD_lt (List.pairwise_map.mpr (h.imp fun {l m} hlm => ?_))
      rw [ltD_sD, ltD_sD]
      rcases list_tri hlm with h | h
      · exact .inl (decide_eq_true h)
      · exact .inr (decide_eq_true h)
    rw [← e] at h1
    have h2 := List.pairwise_map.mp h1
    refine h2.imp fun {l m} hlm => ?_
    rw [ltD_sD] at hlm
    exact of_decide_eq_true hlm
theorem sorted_strs (xs : List (List Nat)) : oSortedT [.lst (xs.map sD)] = some (.lst (sortD (xs.map sD))) := by
  have : sortOk (xs.map sD) = true := by
    have := sortOk_strs (xs.map mkS)
    rw [List.map_map] at this
    exact this
  exact if_pos this
theorem sorted_strsT (xs : List (List Nat)) : oSortedT [.tup (xs.map sD)] = some (.lst (sortD (xs.map sD))) := by
  have : sortOk (xs.map sD) = true := by
    have := sortOk_strs (xs.map mkS)
    rw [List.map_map] at this
    exact this
  exact if_pos this
/-! ### while -/
section
variable {ρ : Env} {s : Ds} {mt : FB} {mb : FX} {n : Nat}
def whK (mt : FB) (mb : FX) (n : Nat) (fl : Fl) (s : Ds) : Out Fl := match fl with
  | .nx ρ' => whF mt mb n ρ' s
  | .ct ρ' => whF mt mb n ρ' s
  | .bk ρ' => .ok (.nx ρ') s
  | fl => .ok fl s
@[simp] theorem whK_nx : whK mt mb n (.nx ρ) s = whF mt mb n ρ s := rfl
@[simp] theorem whK_rt {d : D} : whK mt mb n (.rt d) s = .ok (.rt d) s := rfl
theorem whF_succ : whF mt mb (n + 1) ρ s = (mt ρ s).bind2 (fun c fs s => .ok (.ex c fs ρ) s) fun b s => if b = true then (mb ρ s).bind (whK mt mb n) else .ok (.nx ρ) s := by
  conv => lhs; unfold whF
  unfold whK
  congr
theorem mWhile_post {Q : Fl → Ds → Prop} {E : Str → List (Str × D) → Ds → Prop} (n : Nat) (h : (whF mt mb n ρ s).post Q E) : (mWhile mt mb ρ s).post Q E := ⟨n, h⟩
end
theorem ne_nil_lst {xs : List D} : oNe' (.lst xs) (.lst []) = some (.bl (!xs.isEmpty)) := by
  show some (D.bl (xs.isEmpty != true)) = _
  cases xs <;> rfl
end DL
namespace V
open PySem L2 DL
theorem many_post {a : Addr} {n : Int} {ob : List (Addr × D)} {m : Nat} {Q : D → Ds → Prop} {E : Str → List (Str × D) → Ds → Prop} (hm : 2 ≤ m) (hm4 : m ≤ 4) (hn : n + 13 ≤ 10 ^ 15)
    (h : ∀ (ns : List (List Nat)) (k : Int), 0 ≤ k → k ≤ 13 → GoodNames ns → ns.length ≤ m → Q (tS ns) ⟨some (a, n + k), ob⟩) : (c_law_many [.ref a, .int m] ⟨some (a, n), ob⟩).post Q E := by
  simp [c_law_many, m_law_many]
  refine next_post (by omega) (by omega) (by omega) fun r h0 h1 => ?_
  obtain ⟨i, rfl⟩ := Int.eq_ofNat_of_zero_le h0
  simp
  rw [show (2 : Int) + (i : Int) = ((2 + i : Nat) : Int) by omega]
  refine names_post (by omega) (by omega) (by omega) fun ns k hk0 hk hl hw hnd => ?_
  rw [sorted_strs]
  obtain ⟨ns', hp, hasc, e⟩ := sortD_names hnd
  simp [e]
  rw [show n + 1 + k = n + (1 + k) by omega]
  have hl' := hp.length_eq
  exact h ns' (1 + k) (by omega) (by omega) ⟨by omega, by omega, fun l hl => hw l (hp.subset hl), hasc⟩ (by omega)
/-- an order of the names -/
theorem order_loop {a : Addr} {ob : List (Addr × D)} {nm : D} {Q : Fl → Ds → Prop} {E : Str → List (Str × D) → Ds → Prop} : ∀ (left found : List (List Nat)) (y : Option D) (n : Int), n + left.length ≤ 10 ^ 15 → left.length + found.length ≤ 100 →
    (∀ (o : List (List Nat)) (y' : Option D), o.Perm (found ++ left) → Q (.nx [some (.ref a), some nm, some (.lst []), some (tS o), y']) ⟨some (a, n + left.length), ob⟩) →
    (whF (mTest (mBin oNe' (mVar 2) (mLst mNil))) b_law_order1 (left.length + 1) [some (.ref a), some nm, some (.lst (left.map sD)), some (tS found), y] ⟨some (a, n), ob⟩).post Q E := by
  intro left
  generalize hk : left.length = k
  induction k generalizing left with
  | zero =>
    intro found y n _ _ h
    have : left = [] := List.length_eq_zero_iff.mp hk
    subst this
    rw [whF_succ]
    simp [ne_nil_lst]
    have := h found y (by simp)
    simpa using this
  | succ k ih =>
    intro found y n hn hz h
    have hne : left ≠ [] := fun e => by rw [e] at hk; cases hk
    have hem : (left.map sD).isEmpty = false := by cases left with | nil => exact absurd rfl hne | cons _ _ => rfl
    rw [whF_succ]
    simp [ne_nil_lst, hem, b_law_order1]
    rw [show (D.int (left.length : Int)) = D.int ((left.length : Nat) : Int) from rfl]
    refine next_post (by omega) (by omega) (by omega) fun r h0 h1 => ?_
    obtain ⟨i, rfl⟩ := Int.eq_ofNat_of_zero_le h0
    have hi : i < left.length := by omega
    have e1 : oIx' (.lst (left.map sD)) (.int (i : Int)) = some (sD left[i]) := by
      show atI (left.map sD) (i : Int) = _
      rw [atI_nat _ i (by simpa using hi)]
      simp
    simp [e1]
    have e2 : oAdd' (tS found) (.tup [sD left[i]]) = some (tS (found ++ [left[i]])) := by
      show (if (found.map sD).length + 1 ≤ sizeLine then some (D.tup (found.map sD ++ [sD left[i]])) else none) = _
      rw [if_pos (sz (by simp; omega))]
      simp
    rw [e2]
    simp
    have e3 : oCut (.lst (left.map sD)) none (some (i : Int)) = some (.lst ((left.take i).map sD)) := by
      show some (D.lst (cutD (left.map sD) none (some (i : Int)))) = _
      have : cutD (left.map sD) none (some (i : Int)) = (left.map sD).take i := cutL_to _ i
      rw [this, List.map_take]
    have e4 : oCut (.lst (left.map sD)) (some ((i : Int) + 1)) none = some (.lst ((left.drop (i + 1)).map sD)) := by
      show some (D.lst (cutD (left.map sD) (some ((i : Int) + 1)) none)) = _
      have : cutD (left.map sD) (some ((i + 1 : Nat) : Int)) none = (left.map sD).drop (i + 1) := cutL_from _ (i + 1)
      rw [show ((i : Int) + 1) = ((i + 1 : Nat) : Int) by omega, this, List.map_drop]
    simp [e3, e4]
    have e5 : oAdd' (.lst ((left.take i).map sD)) (.lst ((left.drop (i + 1)).map sD)) = some (.lst ((left.take i ++ left.drop (i + 1)).map sD)) := by
      show (if ((left.take i).map sD).length + ((left.drop (i + 1)).map sD).length ≤ sizeLine then some (D.lst ((left.take i).map sD ++ (left.drop (i + 1)).map sD)) else none) = _
      rw [if_pos (sz (by simp; omega)), List.map_append]
    simp at e5
    rw [e5]
    simp
    have hp : left.Perm (left[i] :: (left.take i ++ left.drop (i + 1))) := by
      have : left = left.take i ++ left[i] :: left.drop (i + 1) := by
        rw [List.getElem_cons_drop, List.take_append_drop]
      conv => lhs; rw [this]
      exact List.perm_middle
    have hl : (left.take i ++ left.drop (i + 1)).length = k := by simp; omega
    have := ih (left.take i ++ left.drop (i + 1)) hl (found ++ [left[i]]) (some (.int (i : Int))) (n + 1) (by omega) (by simp; omega) fun o y' ho => ?_
    · simpa [b_law_order1] using this
    · rw [show n + 1 + ((k : Nat) : Int) = n + ((k + 1 : Nat) : Int) by omega]
      refine h o y' (ho.trans ?_)
      rw [List.append_assoc]
      exact List.Perm.append_left found hp.symm
theorem order_post {a : Addr} {n : Int} {ob : List (Addr × D)} {ns : List (List Nat)} {Q : D → Ds → Prop} {E : Str → List (Str × D) → Ds → Prop} (hg : ns.length ≤ 50) (hn : n + 50 ≤ 10 ^ 15)
    (h : ∀ (o : List (List Nat)), o.Perm ns → Q (tS o) ⟨some (a, n + ns.length), ob⟩) : (c_law_order [.ref a, tS ns] ⟨some (a, n), ob⟩).post Q E := by
  simp [c_law_order, m_law_order]
  refine mWhile_post (ns.length + 1) ?_
  refine order_loop ns [] none n (by omega) (by simp; omega) fun o y' ho => ?_
  simp at ho
  simp
  exact h o ho
end V

namespace DL
open PySem L2 PySem.W PyProof.Rows
def letB (c : Nat) : Bool := decide (97 ≤ c) && decide (c ≤ 122)
theorem letB_iff {c : Nat} : letB c = true ↔ isLet c := by unfold letB isLet; simp
def wordB (l : List Nat) : Bool := decide (1 ≤ l.length) && (decide (l.length ≤ 8) && l.all letB)
theorem wordB_iff {l : List Nat} : wordB l = true ↔ IsWord l := by
  unfold wordB
  simp only [Bool.and_eq_true, decide_eq_true_eq, List.all_eq_true]
  exact ⟨fun ⟨a, b, c⟩ => ⟨a, b, fun x hx => letB_iff.mp (c x hx)⟩, fun h => ⟨h.ge, h.le, fun x hx => letB_iff.mpr (h.ok x hx)⟩⟩
theorem sD_rp (l : List Nat) : (sD l).rp = true := rfl
theorem signsD_mkS (l : List Nat) : signsD (mkS l) = l.map fun c => sD [c] := rfl
theorem oIn_let (c : Nat) : oIn' (sD [c]) (.str LET) = some (.bl (letB c)) := by
  show some (D.bl (decide (c ∈ LET.cps.toList) != false)) = _
  have : decide (c ∈ LET.cps.toList) = letB c := by
    apply Bool.eq_iff_iff.mpr
    rw [decide_eq_true_iff, mem_let, letB_iff]
  rw [this]; cases letB c <;> rfl
def risingB (ns : List (List Nat)) : Bool := (ns.zip (ns.drop 1)).all fun p => decide (p.1 < p.2)
theorem rising_of {ns : List (List Nat)} (h : ns.Pairwise (· < ·)) : risingB ns = true := by
  unfold risingB
  induction ns with
  | nil => rfl
  | cons x r ih =>
    obtain ⟨h1, h2⟩ := List.pairwise_cons.mp h
    cases r with
    | nil => rfl
    | cons y t =>
      show (((x, y) :: (y :: t).zip ((y :: t).drop 1)).all _) = true
      rw [List.all_cons, ih h2]
      simp [h1 y (List.mem_cons_self ..)]
theorem rising_iff {ns : List (List Nat)} : risingB ns = true ↔ ns.Pairwise (· < ·) := by
  refine ⟨fun h => ?_, rising_of⟩
  induction ns with
  | nil => exact .nil
  | cons x r ih =>
    cases r with
    | nil => exact List.pairwise_singleton _ _
    | cons y t =>
      have h' : (((x, y) :: (y :: t).zip ((y :: t).drop 1)).all fun p => decide (p.1 < p.2)) = true := h
      rw [List.all_cons, Bool.and_eq_true] at h'
      have h1 : x < y := of_decide_eq_true h'.1
      have h2 := ih h'.2
      refine List.pairwise_cons.mpr ⟨fun z hz => ?_, h2⟩
      rcases List.mem_cons.mp hz with rfl | hz
      · exact h1
      · exact List.lt_trans h1 ((List.pairwise_cons.mp h2).1 z hz)
theorem zip_tup (ns : List (List Nat)) : oZip [tS ns, .tup (ns.map sD).tail] = some ((ns.zip ns.tail).map fun p => .tpw [sD p.1, sD p.2]) := by
  show some (zipD (ns.map sD) (ns.map sD).tail) = _
  rw [← List.map_tail]
  unfold zipD
  rw [List.zipWith_map]
  congr 1
  rw [List.zip, List.map_zipWith]
theorem cut_tup_from (xs : List D) (k : Nat) : oCut (.tup xs) (some (k : Int)) none = some (.tup (xs.drop k)) := by
  show some (D.tup (cutD xs (some (k : Int)) none)) = _
  have : cutD xs (some (k : Int)) none = xs.drop k := cutL_from _ k
  rw [this]
theorem cut_tup_to (xs : List D) (k : Nat) : oCut (.tup xs) none (some (k : Int)) = some (.tup (xs.take k)) := by
  show some (D.tup (cutD xs none (some (k : Int)))) = _
  have : cutD xs none (some (k : Int)) = xs.take k := cutL_to _ k
  rw [this]
theorem tS_rp (ns : List (List Nat)) : (tS ns).rp = true := by
  show D.rps (ns.map sD) = true
  induction ns with
  | nil => rfl
  | cons x r ih => show (true && D.rps (r.map sD)) = true; rw [ih]; rfl
end DL
namespace V
open PySem L2 DL
theorem is_word_str {l : List Nat} {s : Ds} (hl : l.length ≤ 1000) : c_is_word [sD l] s = .ok (.bl (wordB l)) s := by
  simp [c_is_word, m_is_word, isi_eq (rp_ty (sD_rp l)), isT, tyD, isiB, oLen_str (sz (show (mkS l).length ≤ 1000 by simpa using hl))]
  rw [mLc_of l (fun c => sD [c]) (fun c => .bl (letB c)) (by simp [signsD_mkS]) (fun c _ => ⟨_, rfl, by simp [wipeD]; rw [oIn_let]; rfl⟩) (sz hl)]
  simp [oAll_map, wordB]
  by_cases h1 : (1 : Int) ≤ l.length <;> by_cases h2 : (l.length : Int) ≤ 8 <;> simp [h1, h2]
  · have h1' : 1 ≤ l.length := by omega
    have h2' : l.length ≤ 8 := by omega
    simp [h1', h2']
  · have h2' : ¬ l.length ≤ 8 := by omega
    simp [h2']
  · have h1' : ¬ 1 ≤ l.length := by omega
    simp [h1']
  · have h1' : ¬ 1 ≤ l.length := by omega
    simp [h1']
theorem are_rising_strs {ns : List (List Nat)} {s : Ds} (hl : ns.length ≤ 1000) : c_are_rising [tS ns] s = .ok (.bl (risingB ns)) s := by
  simp [c_are_rising, m_are_rising]
  have e1 : oCut (.tup (ns.map sD)) (some 1) none = some (.tup ((ns.drop 1).map sD)) := by
    have := cut_tup_from (ns.map sD) 1
    rw [List.map_drop]
    exact this
  rw [mLc_of (ns.zip (ns.drop 1)) (fun p => .tpw [sD p.1, sD p.2]) (fun p => .bl (decide (p.1 < p.2))) (by simp [e1]; rw [zip_tup]; rfl) (fun p _ => ⟨_, rfl, by simp [wipeD]; rfl⟩) (sz (by simp [List.length_zip]; omega))]
  simp [oAll_map, risingB]
theorem need_names_good {ns : List (List Nat)} {s : Ds} (h : GoodNames ns) : c_need_names [tS ns] s = .ok (tS ns) s := by
  have h1 : (2 : Int) ≤ ns.length := by have := h.ge; omega
  have h2 : (ns.length : Int) ≤ 4 := by have := h.le; omega
  have h3 : ns.length ≤ 1000 := by have := h.le; omega
  have h4 : ns.all wordB = true := List.all_eq_true.mpr fun l hl => wordB_iff.mpr (h.words l hl)
  simp [c_need_names, m_need_names, isi_eq (rp_ty (tS_rp ns)), isT, tyD, isiB, h1, h2]
  rw [mLc_of ns sD (fun l => .bl (wordB l)) (by simp) (fun l hl => ⟨_, rfl, by simp [wipeD, is_word_str (show l.length ≤ 1000 by have := (h.words l hl).le; omega)]⟩) (sz h3)]
  simp [oAll_map, h4, are_rising_strs h3, rising_of h.asc]
end V

namespace DL
open PySem L2 PySem.W PyProof.Rows
/-! ### rules -/
structure RuleV where
  ns : List (List Nat)
  st : Nat
  q0 : Int
  q1 : Int
  ov : Bool
  h0 : Int
  h1 : Int
  od : List (List Nat)
def RuleV.fT (r : RuleV) : List D := [tS r.ns, .int r.st, .tup [.int r.q0, .int r.q1], .bl r.ov, .tup [.int r.h0, .int r.h1], tS r.od]
def RuleV.tup (r : RuleV) : D := .tup r.fT
def RuleV.obj (r : RuleV) : D := .obj "Rule" [("names", tS r.ns), ("seats", .int r.st), ("quota", .tup [.int r.q0, .int r.q1]), ("over", .bl r.ov), ("hand", .tup [.int r.h0, .int r.h1]), ("order", tS r.od)]
structure GoodRule (r : RuleV) : Prop where
  nm : GoodNames r.ns
  st0 : 1 ≤ r.st
  st1 : r.st + 1 ≤ r.ns.length
  qa : 1 ≤ r.q0
  qb : r.q0 + 1 ≤ r.q1
  qc : 2 ≤ r.q1
  qd : r.q1 ≤ 100
  ha : 0 ≤ r.h0
  hb : r.h0 ≤ r.h1
  hc : 1 ≤ r.h1
  hd : r.h1 ≤ 100
  ord : r.od.Perm r.ns
theorem ix_lst {xs : List D} {i : Nat} (h : i < xs.length) : oIx' (.lst xs) (.int (i : Int)) = some xs[i] := atI_nat xs i h
theorem ix_tup {xs : List D} {i : Nat} (h : i < xs.length) : oIx' (.tup xs) (.int (i : Int)) = some xs[i] := atI_nat xs i h
/-- a table: what is there comes out -/
theorem ix_all {xs : List D} {r : Int} (P : D → Prop) (h0 : 0 ≤ r) (h1 : r < xs.length) (h : ∀ x ∈ xs, P x) : ∃ d, oIx' (.lst xs) (.int r) = some d ∧ P d := by
  obtain ⟨d, e, m⟩ := atI_int xs h0 h1
  exact ⟨d, e, h d m⟩
@[simp] theorem oEqI_r {i j : Int} {s : Ds} : optO (oEq' (.int i) (.int j)) s = .ok (.bl (decide (i = j))) s := by rw [oEq_ii]; rfl
end DL
namespace V
open PySem L2 DL
theorem rule_post {a : Addr} {n : Int} {ob : List (Addr × D)} {ns : List (List Nat)} {Q : D → Ds → Prop} {E : Str → List (Str × D) → Ds → Prop} (hg : GoodNames ns) (hn : n + 60 ≤ 10 ^ 15)
    (h : ∀ (r : RuleV), GoodRule r → r.ns = ns → ∀ k : Int, 0 ≤ k → k ≤ 8 → Q r.tup ⟨some (a, n + k), ob⟩) : (c_law_rule [.ref a, tS ns] ⟨some (a, n), ob⟩).post Q E := by
  have g2 := hg.ge
  have g4 := hg.le
  simp [c_law_rule, m_law_rule]
  refine next_post (by omega) (by omega) (by omega) fun r h0 h1 => ?_
  simp
  refine next_post (by omega) (by omega) (by omega) fun r1 h2 h3 => ?_
  obtain ⟨qd, eq, q0, q1, rfl, hqa, hqb, hqc, hqd⟩ := ix_all (xs := [.tup [.int 1, .int 2], .tup [.int 1, .int 3], .tup [.int 1, .int (1 + r + 1)], .tup [.int 2, .int 5], .tup [.int 1, .int 100], .tup [.int 3, .int 4], .tup [.int 99, .int 100]])
    (fun d => ∃ q0 q1 : Int, d = .tup [.int q0, .int q1] ∧ 1 ≤ q0 ∧ q0 + 1 ≤ q1 ∧ 2 ≤ q1 ∧ q1 ≤ 100) h2 (by simpa using h3) (by
      intro x hx
      simp only [List.mem_cons, List.not_mem_nil, or_false] at hx
      rcases hx with rfl | rfl | rfl | rfl | rfl | rfl | rfl <;> exact ⟨_, _, rfl, by omega, by omega, by omega, by omega⟩)
  rw [eq]
  simp
  refine next_post (by omega) (by omega) (by omega) fun r2 h4 h5 => ?_
  obtain ⟨hd, eh, b0, b1, rfl, hha, hhb, hhc, hhd⟩ := ix_all (xs := [.tup [.int 0, .int 1], .tup [.int 1, .int 1], .tup [.int 1, .int 2], .tup [.int 1, .int 3], .tup [.int 2, .int 3], .tup [.int 0, .int 7], .tup [.int 99, .int 100]])
    (fun d => ∃ q0 q1 : Int, d = .tup [.int q0, .int q1] ∧ 0 ≤ q0 ∧ q0 ≤ q1 ∧ 1 ≤ q1 ∧ q1 ≤ 100) h4 (by simpa using h5) (by
      intro x hx
      simp only [List.mem_cons, List.not_mem_nil, or_false] at hx
      rcases hx with rfl | rfl | rfl | rfl | rfl | rfl | rfl <;> exact ⟨_, _, rfl, by omega, by omega, by omega, by omega⟩)
  rw [eh]
  simp
  refine next_post (by omega) (by omega) (by omega) fun r3 h6 h7 => ?_
  simp
  refine order_post (by omega) (by omega) fun o ho => ?_
  obtain ⟨i, rfl⟩ := Int.eq_ofNat_of_zero_le h0
  have := h ⟨ns, 1 + i, q0, q1, decide (r3 = 0), b0, b1, o⟩ ⟨hg, by simp, by simp; omega, hqa, hqb, hqc, hqd, hha, hhb, hhc, hhd, ho⟩ rfl (1 + 1 + 1 + 1 + ns.length) (by omega) (by omega)
  rw [show n + (1 + 1 + 1 + 1 + (ns.length : Int)) = n + 1 + 1 + 1 + 1 + ns.length by omega] at this
  simpa [RuleV.tup, RuleV.fT] using this
end V

namespace DL
open PySem L2 PySem.W PyProof.Rows
mutual
theorem eqv_refl : ∀ d : D, d.pure = true → d.eqv d = true
  | .non, _ => rfl
  | .bl b, _ => by show PyData.eqv (.bool b) (.bool b) = true; simp [PyData.eqv]
  | .int i, _ => by show PyData.eqv (.int i) (.int i) = true; simp [PyData.eqv]
  | .str x, _ => by show PyData.eqv (.str x) (.str x) = true; simp [PyData.eqv]
  | .tup ds, h => by show PyData.eqv (.tuple (D.pys ds)) (.tuple (D.pys ds)) = true; simp only [PyData.eqv]; exact eqvs_refl ds h
  | .lst ds, h => by show PyData.eqv (.list (D.pys ds)) (.list (D.pys ds)) = true; simp only [PyData.eqv]; exact eqvs_refl ds h
  | .frl _, h => nomatch h
  | .tpw _, h => nomatch h
  | .dct _, h => nomatch h
  | .obj _ _, h => nomatch h
  | .exc _ _, h => nomatch h
  | .cls _, h => nomatch h
  | .ref _, h => nomatch h
  | .ty _, h => nomatch h
  | .own _, h => nomatch h
  | .dtt _, h => nomatch h
  | .xcg _ _ _ _, h => nomatch h
  | .clo _ _, h => nomatch h
theorem eqvs_refl : ∀ ds : List D, D.pures ds = true → PyData.eqvAll (D.pys ds) (D.pys ds) = true
  | [], _ => rfl
  | d :: r, h => by
    have h' := Bool.and_eq_true_iff.mp h
    show PyData.eqvAll (d.py :: D.pys r) (d.py :: D.pys r) = true
    simp only [PyData.eqvAll, Bool.and_eq_true]
    exact ⟨eqv_refl d h'.1, eqvs_refl r h'.2⟩
end
theorem oEqB_same {neg : Bool} {d : D} (h : d.fit = true) : oEqB neg d d = some (.bl (!neg)) := by
  have hp : d.pure = true := (Bool.and_eq_true_iff.mp h).1
  unfold oEqB
  split
  · cases neg <;> rfl
  · cases neg <;> rfl
  · rw [if_pos ⟨h, h⟩, eqv_refl d hp]; cases neg <;> rfl
theorem strOk_mkS {l : List Nat} (h : ∀ c ∈ l, c < 0x110000) : PyData.strOk (mkS l) = true := by
  unfold PyData.strOk mkS
  simp only [List.all_toArray, List.all_eq_true, decide_eq_true_eq]
  exact h
theorem word_fit {l : List Nat} (h : IsWord l) : (sD l).fit = true := by
  show (true && (PyData.strOk (mkS l) && decide (0 ≤ 64))) = true
  rw [strOk_mkS (fun c hc => by have := (h.ok c hc).2; omega)]; rfl
theorem words_fit {ns : List (List Nat)} (h : ∀ l ∈ ns, IsWord l) : (tS ns).fit = true := by
  have h1 : D.pures (ns.map sD) = true := by
    induction ns with
    | nil => rfl
    | cons x r ih => show (true && D.pures (r.map sD)) = true; rw [ih fun l m => h l (List.mem_cons_of_mem _ m)]; rfl
  have h2 : PyData.canLayAll0 (D.pys (ns.map sD)) = true := by
    induction ns with
    | nil => rfl
    | cons x r ih =>
      show (PyData.strOk (mkS x) && PyData.canLayAll0 (D.pys (r.map sD))) = true
      rw [ih (fun l m => h l (List.mem_cons_of_mem _ m)) h1, strOk_mkS (fun c hc => by have := ((h x (List.mem_cons_self ..)).ok c hc).2; omega)]; rfl
  have h3 : PyData.depthAll (D.pys (ns.map sD)) = 0 := by
    clear h h1 h2
    induction ns with
    | nil => rfl
    | cons x r ih => show max 0 (PyData.depthAll (D.pys (r.map sD))) = 0; rw [ih]; rfl
  show (D.pures (ns.map sD) && (PyData.canLayAll0 (D.pys (ns.map sD)) && decide (PyData.depthAll (D.pys (ns.map sD)) + 1 ≤ 64))) = true
  rw [h1, h2, h3]; rfl
@[simp] theorem isT_int {i : Int} : isT "int" (.int i) = true := rfl
@[simp] theorem isT_int2 {i : Int} : isT "bool" (.int i) = false := rfl
@[simp] theorem isT_tup {ds : List D} : isT "tuple" (.tup ds) = true := rfl
@[simp] theorem isT_bl {b : Bool} : isT "bool" (.bl b) = true := rfl
theorem isi_int {i : Int} {T : String} {s : Ds} (hT : T ∈ ["bool", "int", "str", "tuple", "list", "dict"]) : fIsiS isiS [.int i, .ty T] s = .ok (.bl (isT T (.int i))) s := isi_eq rfl hT
theorem isi_tup {ds : List D} {T : String} {s : Ds} (hT : T ∈ ["bool", "int", "str", "tuple", "list", "dict"]) : fIsiS isiS [.tup ds, .ty T] s = .ok (.bl (isT T (.tup ds))) s := isi_eq rfl hT
theorem isi_bl {b : Bool} {T : String} {s : Ds} (hT : T ∈ ["bool", "int", "str", "tuple", "list", "dict"]) : fIsiS isiS [.bl b, .ty T] s = .ok (.bl (isT T (.bl b))) s := isi_eq rfl hT
theorem isi_str {x : Str} {T : String} {s : Ds} (hT : T ∈ ["bool", "int", "str", "tuple", "list", "dict"]) : fIsiS isiS [.str x, .ty T] s = .ok (.bl (isT T (.str x))) s := isi_eq rfl hT
@[simp] theorem ix2_0 {x y : D} : oIx' (.tup [x, y]) (.int 0) = some x := rfl
@[simp] theorem ix2_1 {x y : D} : oIx' (.tup [x, y]) (.int 1) = some y := rfl
theorem sortD_of_perm {o ns : List (List Nat)} (hp : o.Perm ns) (h : ns.Pairwise (· < ·)) : sortD (o.map sD) = ns.map sD := by
  refine sortD_eq (hp.symm.map sD) (List.pairwise_map.mpr (h.imp fun {l m} hlm => ?_))
  rw [ltD_sD]; exact decide_eq_true hlm
end DL
namespace V
open PySem L2 DL
theorem is_number_int {i : Int} {s : Ds} : c_is_number [.int i] s = .ok (.bl true) s := by
  simp [c_is_number, m_is_number, isi_int]
theorem is_among_int {i lo hi : Int} {s : Ds} : c_is_among [.int i, .int lo, .int hi] s = .ok (.bl (decide (lo ≤ i) && decide (i ≤ hi))) s := by
  simp [c_is_among, m_is_among, is_number_int]
theorem is_quota_good {a b : Int} {s : Ds} (h1 : 1 ≤ a) (h2 : a + 1 ≤ b) (h3 : 2 ≤ b) (h4 : b ≤ 100) : c_is_quota [.tup [.int a, .int b]] s = .ok (.bl true) s := by
  have h5 : a ≤ b - 1 := by omega
  simp [c_is_quota, m_is_quota, isi_tup, is_among_int, h1, h2, h3, h4, h5]
theorem is_hand_good {a b : Int} {s : Ds} (h1 : 0 ≤ a) (h2 : a ≤ b) (h3 : 1 ≤ b) (h4 : b ≤ 100) : c_is_hand [.tup [.int a, .int b]] s = .ok (.bl true) s := by
  simp [c_is_hand, m_is_hand, isi_tup, is_among_int, h1, h2, h3, h4]
theorem is_order_good {ns o : List (List Nat)} {s : Ds} (h : GoodNames ns) (hp : o.Perm ns) : c_is_order [tS ns, tS o] s = .ok (.bl true) s := by
  have hl : o.length ≤ 1000 := by have := hp.length_eq; have := h.le; omega
  simp [c_is_order, m_is_order, isi_tup]
  rw [mLc_of o sD (fun l => .bl true) (by simp) (fun l hl => ⟨_, rfl, by simp [wipeD, isi_str]; rfl⟩) (sz hl)]
  simp [oAll_map, sorted_strsT, sortD_of_perm hp h.asc, oEqB_same (words_fit h.words)]
end V

namespace DL
open PySem L2
theorem get_new {s : Ds} {a : Addr} {d : D} : (s.new a d).get a = some d := if_pos rfl
theorem put_new {s : Ds} {a : Addr} {d e : D} : (s.new a d).put a e = s.new a e := by
  unfold Ds.put Ds.new putL
  rw [if_pos rfl]
theorem del_new {s : Ds} {a : Addr} {d : D} : (s.new a d).del a = s := by
  unfold Ds.del Ds.new eraseL
  rw [if_pos rfl]
theorem putD_app {f : Str} {v : D} : ∀ {fs : List (Str × D)}, (∀ p ∈ fs.map Prod.fst, p ≠ f) → putD f v fs = fs ++ [(f, v)]
  | [], _ => rfl
  | (g, x) :: r, h => by
    unfold putD
    rw [if_neg (h g (List.mem_cons_self ..)), putD_app fun p m => h p (List.mem_cons_of_mem _ m)]
    rfl
theorem setF_new {c n : Str} {fs : List (Str × D)} {i j : Nat} {ρ : Env} {s : Ds} {a : Addr} {y : D} (hi : ρ[i]? = some (some (.ref a))) (hj : ρ[j]? = some (some y)) (hy : noOwn y = some y) (hA : attO c n = true) (hf : fs.length < 1000) (hn : ∀ p ∈ fs.map Prod.fst, p ≠ n) :
    mSetF attO n (mVar i) (mVar j) ρ (s.new a (.obj c fs)) = .ok (.nx ρ) (s.new a (.obj c (fs ++ [(n, y)]))) := by
  have e1 : mVar j ρ (s.new a (.obj c fs)) = .ok y (s.new a (.obj c fs)) := by simp [hj, hy]
  have e2 : mVar i ρ (s.new a (.obj c fs)) = .ok (.ref a) (s.new a (.obj c fs)) := by simp [hi]
  have e3 : setD attO n y (s.new a (.obj c fs)) (.ref a) = some (s.new a (.obj c (fs ++ [(n, y)]))) := by
    unfold setD
    dsimp only
    rw [get_new]
    dsimp only
    rw [if_pos ⟨hA, hf⟩, put_new, putD_app hn]
  unfold mSetF
  simp only [stE_r, e1, Out.bind2_ok, e2, e3]
theorem RuleV.ix0 (r : RuleV) : oIx' r.tup (.int 0) = some (tS r.ns) := rfl
theorem RuleV.ix1 (r : RuleV) : oIx' r.tup (.int 1) = some (.int r.st) := rfl
theorem RuleV.ix2 (r : RuleV) : oIx' r.tup (.int 2) = some (.tup [.int r.q0, .int r.q1]) := rfl
theorem RuleV.ix3 (r : RuleV) : oIx' r.tup (.int 3) = some (.bl r.ov) := rfl
theorem RuleV.ix4 (r : RuleV) : oIx' r.tup (.int 4) = some (.tup [.int r.h0, .int r.h1]) := rfl
theorem RuleV.ix5 (r : RuleV) : oIx' r.tup (.int 5) = some (tS r.od) := rfl
theorem RuleV.own (r : RuleV) : noOwn r.tup = some r.tup := rfl
theorem RuleV.ownO (r : RuleV) : noOwn r.obj = some r.obj := rfl
end DL
namespace V
open PySem L2 DL
theorem init_checks {r : RuleV} (h : GoodRule r) {s : Ds} {a : Addr} {mu : FX} : ∃ d7 d8 d9, (mThen (mDrop (mCall (c_need_names) (mCons (mVar 1) mNil))) (mThen (mSet 7 (mLst (mCons (mTup (mCons (mC (.str "seats")) (mCons (mCall (c_is_among) (mCons (mVar 2) (mCons (mC (.int 1)) (mCons (mBin oSubB (mCB oLen (mCons (mVar 1) mNil)) (mC (.int 1))) mNil)))) mNil))) (mCons (mTup (mCons (mC (.str "quota")) (mCons (mCall (c_is_quota) (mCons (mVar 3) mNil)) mNil))) mNil)))) (mThen (mSet 7 (mLst (mStar (mVar 7) (mCons (mTup (mCons (mC (.str "over")) (mCons (mCallN (fIsiS isiS) (mCons (mVar 4) (mCons (mC (.ty "bool")) mNil))) mNil))) (mCons (mTup (mCons (mC (.str "hand")) (mCons (mCall (c_is_hand) (mCons (mVar 5) mNil)) mNil))) (mCons (mTup (mCons (mC (.str "order")) (mCons (mCall (c_is_order) (mCons (mVar 1) (mCons (mVar 6) mNil))) mNil))) mNil)))))) (mThen (mFor (mItems (mVar 7)) (og2 8 9) (b_Rule___init__1)) mu)))) (startD 10 (.ref a :: r.fT)) s = mu ((.ref a :: r.fT).map some ++ [some d7, some d8, some d9]) s := by
  have g1 : (1 : Int) ≤ r.st := by have := h.st0; omega
  have g2 : (r.st : Int) ≤ (r.ns.length : Int) - 1 := by have := h.st1; omega
  refine ⟨.lst [.tup [.str "seats", .bl true], .tup [.str "quota", .bl true], .tup [.str "over", .bl true], .tup [.str "hand", .bl true], .tup [.str "order", .bl true]], .str "order", .bl true, ?_⟩
  simp [RuleV.fT, need_names_good h.nm, is_among_int, is_quota_good h.qa h.qb h.qc h.qd, is_hand_good h.ha h.hb h.hc h.hd, is_order_good h.nm h.ord, isi_bl, g1, g2]
  simp [forF_cons, b_Rule___init__1]
theorem init_good {r : RuleV} (h : GoodRule r) {s : Ds} {a : Addr} : c_Rule___init__ (.ref a :: r.fT) (s.new a (.obj "Rule" [])) = .ok .non (s.new a r.obj) := by
  obtain ⟨d7, d8, d9, e⟩ := init_checks h (s := s.new a (.obj "Rule" [])) (a := a) (mu := (mThen (mSetF attO "names" (mVar 0) (mVar 1)) (mThen (mSetF attO "seats" (mVar 0) (mVar 2)) (mThen (mSetF attO "quota" (mVar 0) (mVar 3)) (mThen (mSetF attO "over" (mVar 0) (mVar 4)) (mThen (mSetF attO "hand" (mVar 0) (mVar 5)) (mSetF attO "order" (mVar 0) (mVar 6))))))))
  unfold c_Rule___init__ m_Rule___init__
  rw [callF_r, if_pos (show (D.ref a :: r.fT).length = 7 from rfl), e]
  simp only [mThen_r, RuleV.fT, List.map_cons, List.map_nil, List.cons_append, List.nil_append]
  rw [setF_new rfl rfl rfl (by decide +kernel) (by decide) (by intro p hp; cases hp)]
  simp only [Out.bind_ok, thenK_nx, mThen_r, List.nil_append]
  rw [setF_new rfl rfl rfl (by decide +kernel) (by simp) (by simp; decide)]
  simp only [Out.bind_ok, thenK_nx, mThen_r, List.nil_append]
  rw [setF_new rfl rfl rfl (by decide +kernel) (by simp) (by simp; decide)]
  simp only [Out.bind_ok, thenK_nx, mThen_r, List.nil_append]
  rw [setF_new rfl rfl rfl (by decide +kernel) (by simp) (by simp; decide)]
  simp only [Out.bind_ok, thenK_nx, mThen_r, List.nil_append]
  rw [setF_new rfl rfl rfl (by decide +kernel) (by simp) (by simp; decide)]
  simp only [Out.bind_ok, thenK_nx, mThen_r, List.nil_append]
  rw [setF_new rfl rfl rfl (by decide +kernel) (by simp) (by simp; decide)]
  rfl
end V

namespace DL
open PySem L2 PySem.W PyProof.Rows
/-! ### courses -/
abbrev Stp := Bool × List Nat
def inS (b : Bool) : Str := if b then "in" else "out"
def stD (p : Stp) : D := .tup [.str (inS p.1), sD p.2]
def coD (c : List Stp) : D := .tup (c.map stD)
def wout (x : List Nat) (g : List (List Nat)) : List (List Nat) := g.filter fun y => !decide (y = x)
def courses : Nat → List (List Nat) → Nat → List (List Stp)
  | 0, _, _ => []
  | k + 1, g, st => if st = 0 ∨ g.length ≤ st then [[]] else [true, false].flatMap fun b => g.flatMap fun x => (courses k (wout x g) (st - b.toNat)).map ((b, x) :: ·)
theorem mkS_beq (l m : List Nat) : (mkS l == mkS m) = decide (l = m) := by
  apply Bool.eq_iff_iff.mpr
  rw [beq_iff_eq, decide_eq_true_iff]
  exact ⟨mkS_inj, fun h => by rw [h]⟩
theorem eqv_sD (l m : List Nat) : (sD l).eqv (sD m) = decide (l = m) := by
  show PyData.eqv (.str (mkS l)) (.str (mkS m)) = _
  simp only [PyData.eqv, mkS_beq]
theorem oNe_word {l m : List Nat} (h1 : IsWord l) (h2 : IsWord m) : oNe' (sD l) (sD m) = some (.bl (!decide (l = m))) := by
  show (if (sD l).fit = true ∧ (sD m).fit = true then some (D.bl ((sD l).eqv (sD m) != true)) else none) = _
  rw [if_pos ⟨word_fit h1, word_fit h2⟩, eqv_sD]; cases decide (l = m) <;> rfl
def fcn : Nat → Nat
  | 0 => 1
  | n + 1 => 2 * (n + 1) * fcn n
theorem fcn_pos (n : Nat) : 1 ≤ fcn n := by
  induction n with
  | zero => exact Nat.le_refl _
  | succ n ih => exact Nat.le_trans ih (Nat.le_mul_of_pos_left _ (by omega))
theorem wout_len {x : List Nat} {g : List (List Nat)} (hn : g.Nodup) (hx : x ∈ g) : (wout x g).length + 1 = g.length := by
  induction g with
  | nil => cases hx
  | cons y r ih =>
    obtain ⟨h1, h2⟩ := List.nodup_cons.mp hn
    by_cases e : y = x
    · subst e
      have : wout y (y :: r) = r := by
        unfold wout
        rw [List.filter_cons_of_neg (by simp)]
        exact List.filter_eq_self.mpr fun z hz => by
          have : z ≠ y := fun e => h1 (e ▸ hz)
          simp [this]
      rw [this]; rfl
    · have hx' : x ∈ r := by rcases List.mem_cons.mp hx with h | h; exact absurd h.symm e; exact h
      have : wout x (y :: r) = y :: wout x r := List.filter_cons_of_pos (by simp [e])
      rw [this, List.length_cons, ih h2 hx', List.length_cons]
theorem wout_nodup {x : List Nat} {g : List (List Nat)} (hn : g.Nodup) : (wout x g).Nodup := hn.filter _
theorem wout_mem {x y : List Nat} {g : List (List Nat)} : y ∈ wout x g ↔ y ∈ g ∧ y ≠ x := by unfold wout; rw [List.mem_filter]; simp
def cnt : Nat → Nat → Nat → Nat
  | 0, _, _ => 0
  | k + 1, n, st => if st = 0 ∨ n ≤ st then 1 else n * cnt k (n - 1) (st - 1) + n * cnt k (n - 1) st
theorem sum_const {α : Type} {f : α → Nat} {c : Nat} : ∀ {l : List α}, (∀ x ∈ l, f x = c) → (l.map f).sum = l.length * c
  | [], _ => by simp
  | x :: r, h => by
    rw [List.map_cons, List.sum_cons, sum_const fun y m => h y (List.mem_cons_of_mem _ m), h x (List.mem_cons_self ..), List.length_cons, Nat.add_mul]; omega
theorem courses_len : ∀ (k : Nat) (g : List (List Nat)) (st : Nat), g.Nodup → (courses k g st).length = cnt k g.length st
  | 0, _, _, _ => rfl
  | k + 1, g, st, hn => by
    unfold courses cnt
    split
    · rfl
    · simp only [List.flatMap_cons, List.flatMap_nil, List.append_nil, List.length_append, List.length_flatMap, List.length_map]
      rw [sum_const (c := cnt k (g.length - 1) (st - true.toNat)) fun x hx => ?_, sum_const (c := cnt k (g.length - 1) (st - false.toNat)) fun x hx => ?_]
      · rfl
      all_goals
        rw [courses_len k _ _ (wout_nodup hn)]
        have := wout_len hn hx
        rw [show (wout x g).length = g.length - 1 by omega]
theorem cnt_le : ∀ (k n st : Nat), cnt k n st ≤ fcn n
  | 0, _, _ => Nat.zero_le _
  | k + 1, n, st => by
    unfold cnt
    split
    · exact fcn_pos n
    · rename_i h
      match n with
      | 0 => omega
      | m + 1 =>
        have h1 := cnt_le k m (st - 1)
        have h2 := cnt_le k m st
        show (m + 1) * cnt k m (st - 1) + (m + 1) * cnt k m st ≤ 2 * (m + 1) * fcn m
        have h3 := Nat.mul_le_mul_left (m + 1) h1
        have h4 := Nat.mul_le_mul_left (m + 1) h2
        have : 2 * (m + 1) * fcn m = (m + 1) * fcn m + (m + 1) * fcn m := by rw [Nat.mul_assoc, Nat.two_mul]
        omega
theorem fcn4 {n : Nat} (h : n ≤ 4) : fcn n ≤ 384 := by
  match n, h with
  | 0, _ => decide
  | 1, _ => decide
  | 2, _ => decide
  | 3, _ => decide
  | 4, _ => decide
theorem courses_le {k : Nat} {g : List (List Nat)} {st : Nat} (hn : g.Nodup) (h4 : g.length ≤ 4) : (courses k g st).length ≤ 384 := by
  rw [courses_len k g st hn]; exact Nat.le_trans (cnt_le _ _ _) (fcn4 h4)
theorem sizeLine_v : sizeLine = 16777216 := rfl
end DL
namespace V
open PySem L2 DL
theorem wout_lc {g : List (List Nat)} {x : List Nat} {vs : List Nat} {ρ : DL.Env} {s : Ds} {i j : Nat} (hi : ρ[0]? = some (some (tS g))) (hw : ∀ l ∈ g, IsWord l) (hx : IsWord x) (h4 : g.length ≤ 4)
    (hv : vs = [j]) (h0 : ∀ y : D, ((wipeD ρ [j]).set j (some y))[j]? = some (some y)) (h5 : ∀ y : D, ((wipeD ρ [j]).set j (some y))[i]? = some (some (sD x))) :
    mLc (mItems (mVar 0)) (ogName j) (mTest (mBin oNe' (mVar j) (mVar i))) (mVar j) vs ρ s = .ok (.lst ((wout x g).map sD)) s := by
  subst hv
  refine mLc_if g sD (fun y => !decide (y = x)) sD (by simp [hi]) (fun y hy => ⟨_, rfl, ?_, fun _ => ?_⟩) (sz (by omega))
  · simp [h0, h5, oNe_word (hw y hy) hx]
  · simp [h0]
theorem more_lc {self : FF} {g : List (List Nat)} {x : List Nat} {b : Bool} {left : Int} {C : List (List Stp)} {ρ : DL.Env} {s : Ds} {m : FE} (hC : C.length ≤ 400) (hc : ∀ c ∈ C, c.length ≤ 400) (h6 : ρ[6]? = some (some (tS g))) (hm : m ρ s = .ok (.int left) s)
    (hs : self [tS g, .int left] s = .ok (.lst (C.map coD)) s) (h3 : ∀ y : D, ((wipeD ρ [8]).set 8 (some y))[3]? = some (some (.str (inS b)))) (h5 : ∀ y : D, ((wipeD ρ [8]).set 8 (some y))[5]? = some (some (sD x))) (h8 : ∀ y : D, ((wipeD ρ [8]).set 8 (some y))[8]? = some (some y)) :
    mLc (mItems (mCall self (mCons (mVar 6) (mCons m mNil)))) (ogName 8) mYes (mTup (mCons (mTup (mCons (mVar 3) (mCons (mVar 5) mNil))) (mStar (mVar 8) mNil))) [8] ρ s = .ok (.lst ((C.map ((b, x) :: ·)).map coD)) s := by
  rw [List.map_map]
  refine mLc_of C coD (fun c => coD ((b, x) :: c)) (by simp [h6, hm, hs]) (fun c hc' => ⟨_, rfl, ?_⟩) (sz (by omega))
  have := hc c hc'
  simp [h3, h5, h8, coD, stD]
  rw [sized_ok (by simp; omega)]
  rfl
theorem more_lc2 {self : FF} {g : List (List Nat)} {x : List Nat} {b : Bool} {left : Int} {C : List (List Stp)} {ρ : DL.Env} {s : Ds} {m : FE} (hC : C.length ≤ 400) (hc : ∀ c ∈ C, c.length ≤ 400) (h6 : ρ[6]? = some (some (tS g))) (hm : m ρ s = .ok (.int left) s)
    (hs : self [tS g, .int left] s = .ok (.lst (C.map coD)) s) (h3 : ∀ y : D, ((wipeD ρ [8]).set 8 (some y))[3]? = some (some (.str (inS b)))) (h5 : ∀ y : D, ((wipeD ρ [8]).set 8 (some y))[5]? = some (some (sD x))) (h8 : ∀ y : D, ((wipeD ρ [8]).set 8 (some y))[8]? = some (some y)) :
    mLc (mItems (mCall self (mCons (mVar 6) (mCons m mNil)))) (ogName 8) mYes (mBin oAdd' (mTup (mCons (mTup (mCons (mVar 3) (mCons (mVar 5) mNil))) mNil)) (mVar 8)) [8] ρ s = .ok (.lst ((C.map ((b, x) :: ·)).map coD)) s := by
  rw [List.map_map]
  refine mLc_of C coD (fun c => coD ((b, x) :: c)) (by simp [h6, hm, hs]) (fun c hc' => ⟨_, rfl, ?_⟩) (sz (by omega))
  have := hc c hc'
  have e : oAdd' (.tup [.tup [.str (inS b), sD x]]) (coD c) = some (coD ((b, x) :: c)) := by
    show (if 1 + (c.map stD).length ≤ sizeLine then some (D.tup ([.tup [.str (inS b), sD x]] ++ c.map stD)) else none) = _
    rw [if_pos (sz (by simp; omega))]; rfl
  have e2 : noOwn (coD c) = some (coD c) := rfl
  simp [h3, h5, h8, e, e2]
theorem courses_steps : ∀ (k : Nat) (g : List (List Nat)) (st : Nat), ∀ c ∈ courses k g st, c.length ≤ k
  | 0, _, _, c, h => by cases h
  | k + 1, g, st, c, h => by
    unfold courses at h
    split at h
    · rw [List.mem_singleton] at h; subst h; exact Nat.zero_le _
    · obtain ⟨b, _, h⟩ := List.mem_flatMap.mp h
      obtain ⟨x, _, h⟩ := List.mem_flatMap.mp h
      obtain ⟨d, hd, rfl⟩ := List.mem_map.mp h
      have := courses_steps k _ _ d hd
      rw [List.length_cons]; omega
end V

namespace DL
open PySem L2 PySem.W PyProof.Rows
/-! ### what is a course -/
def stepOf : D → Option Stp
  | .tup [.str a, .str x] => if a = inS true then some (true, x.cps.toList) else if a = inS false then some (false, x.cps.toList) else none
  | _ => none
theorem in_ne : inS true ≠ inS false := by decide +kernel
theorem stepOf_iff {d : D} {p : Stp} : stepOf d = some p ↔ d = stD p := by
  constructor
  · intro h
    unfold stepOf at h
    split at h
    · rename_i a x
      split at h
      · rename_i e; cases h; rw [e]; rfl
      · split at h
        · rename_i e; cases h; rw [e]; rfl
        · cases h
    · cases h
  · rintro rfl
    obtain ⟨b, l⟩ := p
    cases b
    · show (if inS false = inS true then some (true, l) else if inS false = inS false then some (false, l) else none) = some (false, l)
      rw [if_neg (Ne.symm in_ne), if_pos rfl]
    · show (if inS true = inS true then some (true, l) else if inS true = inS false then some (false, l) else none) = some (true, l)
      rw [if_pos rfl]
def stepC (d : D) (g : List (List Nat)) (st : Nat) : Option (List (List Nat) × Nat) :=
  if st = 0 ∨ g.length ≤ st then none else match stepOf d with
  | some (b, l) => if l ∈ g then some (wout l g, st - b.toNat) else none
  | none => none
def runC : List D → List (List Nat) → Nat → Option (List (List Nat) × Nat)
  | [], g, st => some (g, st)
  | d :: r, g, st => match stepC d g st with
    | some (g', st') => runC r g' st'
    | none => none
def finC : Option (List (List Nat) × Nat) → Bool
  | some (g, st) => decide (st = 0) || decide (g.length ≤ st)
  | none => false
theorem runC_iff : ∀ (k : Nat) (ds : List D) (g : List (List Nat)) (st : Nat), g.Nodup → g.length < k → (finC (runC ds g st) = true ↔ ∃ c ∈ courses k g st, ds = c.map stD)
  | 0, _, _, _, _, h => by omega
  | k + 1, [], g, st, hn, hk => by
    show (decide (st = 0) || decide (g.length ≤ st)) = true ↔ _
    rw [Bool.or_eq_true, decide_eq_true_eq, decide_eq_true_eq]
    unfold courses
    constructor
    · intro h; rw [if_pos h]; exact ⟨[], List.mem_singleton.mpr rfl, rfl⟩
    · rintro ⟨c, hc, e⟩
      split at hc
      · assumption
      · obtain ⟨b, _, hc⟩ := List.mem_flatMap.mp hc
        obtain ⟨x, _, hc⟩ := List.mem_flatMap.mp hc
        obtain ⟨d, _, rfl⟩ := List.mem_map.mp hc
        cases e
  | k + 1, d :: r, g, st, hn, hk => by
    unfold runC stepC courses
    by_cases h : st = 0 ∨ g.length ≤ st
    · rw [if_pos h, if_pos h]
      constructor
      · intro z; cases z
      · rintro ⟨c, hc, e⟩; rw [List.mem_singleton.mp hc] at e; cases e
    · rw [if_neg h, if_neg h]
      constructor
      · intro z
        split at z
        · rename_i g' st' q
          split at q
          · rename_i b l hs
            split at q
            · rename_i hl
              cases q
              have hd := stepOf_iff.mp hs
              have h1 := wout_len hn hl
              obtain ⟨c, hc, e⟩ := (runC_iff k r (wout l g) (st - b.toNat) (wout_nodup hn) (by omega)).mp z
              refine ⟨(b, l) :: c, List.mem_flatMap.mpr ⟨b, by cases b <;> simp, List.mem_flatMap.mpr ⟨l, hl, List.mem_map.mpr ⟨c, hc, rfl⟩⟩⟩, ?_⟩
              rw [List.map_cons, hd, e]
            · cases q
          · cases q
        · cases z
      · rintro ⟨c, hc, e⟩
        obtain ⟨b, _, hc⟩ := List.mem_flatMap.mp hc
        obtain ⟨x, hx, hc⟩ := List.mem_flatMap.mp hc
        obtain ⟨c', hc', rfl⟩ := List.mem_map.mp hc
        rw [List.map_cons] at e
        obtain ⟨rfl, rfl⟩ := List.cons.inj e
        have hs : stepOf (stD (b, x)) = some (b, x) := stepOf_iff.mpr rfl
        rw [hs]
        dsimp only
        rw [if_pos hx]
        dsimp only
        have h1 := wout_len hn hx
        exact (runC_iff k _ (wout x g) (st - b.toNat) (wout_nodup hn) (by omega)).mpr ⟨c', hc', rfl⟩
def isCo (ns : List (List Nat)) (st : Nat) : D → Bool
  | .tup ds => finC (runC ds ns st)
  | _ => false
theorem isCo_iff {ns : List (List Nat)} {st : Nat} {d : D} (hn : ns.Nodup) (h4 : ns.length ≤ 4) : isCo ns st d = true ↔ ∃ c ∈ courses 5 ns st, d = coD c := by
  constructor
  · intro h
    cases d <;> first | (cases h; done) | skip
    obtain ⟨c, hc, e⟩ := (runC_iff 5 _ ns st hn (by omega)).mp h
    exact ⟨c, hc, by rw [e]; rfl⟩
  · rintro ⟨c, hc, rfl⟩
    exact (runC_iff 5 _ ns st hn (by omega)).mpr ⟨c, hc, rfl⟩
theorem tx_fit {x : Str} (h : ∀ c ∈ x.cps.toList, isTx c) : (D.str x).fit = true := by
  rw [← mkS_cps x]
  show (true && (PyData.strOk (mkS x.cps.toList) && decide (0 ≤ 64))) = true
  rw [strOk_mkS (fun c hc => by have := (h c hc).2.1; omega)]; rfl
theorem eqv_str (x y : Str) : (D.str x).eqv (.str y) = decide (x = y) := by
  show PyData.eqv (.str x) (.str y) = _
  simp only [PyData.eqv]
  apply Bool.eq_iff_iff.mpr
  rw [beq_iff_eq, decide_eq_true_iff]
theorem in_fit (b : Bool) : (D.str (inS b)).fit = true := by cases b <;> decide +kernel
theorem eqOk_fit {y x : D} (h1 : y.fit = true) (h2 : x.fit = true) : eqOk y x = true := by unfold eqOk; rw [h1, h2]; rfl
theorem nin_words {x : Str} {g : List (List Nat)} (hx : ∀ c ∈ x.cps.toList, isTx c) (hw : ∀ l ∈ g, IsWord l) : oNin' (.str x) (tS g) = some (.bl (!decide (x.cps.toList ∈ g))) := by
  show (if ((g.map sD).all fun y => eqOk y (.str x)) = true then some (D.bl (((g.map sD).any fun y => y.eqv (.str x)) != true)) else none) = _
  have h1 : ((g.map sD).all fun y => eqOk y (.str x)) = true := List.all_eq_true.mpr fun y hy => by
    obtain ⟨l, hl, rfl⟩ := List.mem_map.mp hy
    exact eqOk_fit (word_fit (hw l hl)) (tx_fit hx)
  have h2 : ((g.map sD).any fun y => y.eqv (.str x)) = decide (x.cps.toList ∈ g) := by
    apply Bool.eq_iff_iff.mpr
    rw [List.any_eq_true, decide_eq_true_iff]
    constructor
    · rintro ⟨y, hy, e⟩
      obtain ⟨l, hl, rfl⟩ := List.mem_map.mp hy
      rw [eqv_str, decide_eq_true_iff] at e
      rw [← e]; exact hl
    · intro h
      exact ⟨sD x.cps.toList, List.mem_map.mpr ⟨_, h, rfl⟩, by rw [eqv_str, decide_eq_true_iff]; rfl⟩
  rw [if_pos h1, h2]; cases decide (x.cps.toList ∈ g) <;> rfl
theorem nin_inout {x : Str} (hx : ∀ c ∈ x.cps.toList, isTx c) : oNin' (.str x) (.tup [.str "in", .str "out"]) = some (.bl (!(decide (x = inS true) || decide (x = inS false)))) := by
  show (if (([.str (inS true), .str (inS false)] : List D).all fun y => eqOk y (.str x)) = true then some (D.bl ((([.str (inS true), .str (inS false)] : List D).any fun y => y.eqv (.str x)) != true)) else none) = _
  simp only [List.all_cons, List.all_nil, List.any_cons, List.any_nil, eqOk_fit (in_fit _) (tx_fit hx), eqv_str, Bool.or_false, Bool.and_self, if_true]
  have e1 : decide (inS true = x) = decide (x = inS true) := decide_eq_decide.mpr eq_comm
  have e2 : decide (inS false = x) = decide (x = inS false) := decide_eq_decide.mpr eq_comm
  rw [e1, e2]
  cases (decide (x = inS true) || decide (x = inS false)) <;> rfl
theorem eq_in {x : Str} (hx : ∀ c ∈ x.cps.toList, isTx c) : oEq' (.str x) (.str "in") = some (.bl (decide (x = inS true))) := by
  show (if (D.str x).fit = true ∧ (D.str (inS true)).fit = true then some (D.bl ((D.str x).eqv (.str (inS true)) != false)) else none) = _
  rw [if_pos ⟨tx_fit hx, in_fit true⟩, eqv_str]; cases decide (x = inS true) <;> rfl
end DL
namespace V
open PySem L2 DL
theorem pl_str {k : Nat} {x : Str} (h : Pl k (.str x)) : ∀ c ∈ x.cps.toList, isTx c := by cases k <;> exact h
theorem pl_tup {k : Nat} {ds : List D} (h : Pl k (.tup ds)) : ∃ j, k = j + 1 ∧ ∀ d ∈ ds, Pl j d := by
  cases k with
  | zero => exact absurd h (by unfold Pl; exact id)
  | succ k => exact ⟨k, rfl, h⟩
theorem isi_pl {k : Nat} {d : D} {T : String} {s : Ds} (h : Pl k d) (hT : T ∈ ["bool", "int", "str", "tuple", "list", "dict"]) : fIsiS isiS [d, .ty T] s = .ok (.bl (isT T d)) s := isi_eq (rp_ty (pl_rp k d h)) hT
theorem own_pl {k : Nat} {d : D} (h : Pl k d) : noOwn d = some d := rp_own (pl_rp k d h)
theorem isT_tupN {d : D} (h : ∀ ds, d ≠ .tup ds) (h2 : ∀ ds, d ≠ .tpw ds) : isT "tuple" d = false := by
  cases d <;> first | exact absurd rfl (h _) | exact absurd rfl (h2 _) | rfl
theorem isT_strN {d : D} (h : ∀ ds, d ≠ .str ds) : isT "str" d = false := by
  cases d <;> first | exact absurd rfl (h _) | rfl
@[simp] theorem isT_str {x : Str} : isT "str" (.str x) = true := rfl
theorem ico_env {R T : Option D} {g : List (List Nat)} {st : Nat} {d : D} {x : Str} {vs : List Nat} {s : Ds} {a : D} (hd : d = .tup [a, .str x]) (hw : ∀ l ∈ g, IsWord l) (hx : x.cps.toList ∈ g) (h4 : g.length ≤ 4) :
    mLc (mItems (mVar 2)) (ogName 5) (mTest (mBin oNe' (mVar 5) (mBin oIx' (mVar 4) (mC (.int 1))))) (mVar 5) [5] [R, T, some (tS g), some (.int (st : Int)), some d, none] s = .ok (.lst ((wout x.cps.toList g).map sD)) s := by
  subst hd
  refine mLc_if g sD (fun y => !decide (y = x.cps.toList)) sD (by simp) (fun y hy => ⟨_, rfl, ?_, fun _ => ?_⟩) (sz (by omega))
  · simp [wipeD]
    have := oNe_word (hw y hy) (hw _ hx)
    rw [show sD x.cps.toList = D.str x from rfl] at this
    rw [this]; simp
  · simp [wipeD]
end V

namespace DL
open PySem L2 PySem.W PyProof.Rows
theorem courses_in : ∀ (k : Nat) (g : List (List Nat)) (st : Nat), ∀ c ∈ courses k g st, ∀ p ∈ c, p.2 ∈ g
  | 0, _, _, c, h, _, _ => by cases h
  | k + 1, g, st, c, h, p, hp => by
    unfold courses at h
    split at h
    · rw [List.mem_singleton] at h; subst h; cases hp
    · obtain ⟨b, _, h⟩ := List.mem_flatMap.mp h
      obtain ⟨x, hx, h⟩ := List.mem_flatMap.mp h
      obtain ⟨d, hd, rfl⟩ := List.mem_map.mp h
      rcases List.mem_cons.mp hp with rfl | hp
      · exact hx
      · exact (wout_mem.mp (courses_in k _ _ d hd p hp)).1
def insOf (c : List Stp) : List (List Nat) := (c.filter fun p => p.1).map fun p => p.2
def goneOf (c : List Stp) : List (List Nat) := c.map fun p => p.2
def stays (ns : List (List Nat)) (c : List Stp) : List (List Nat) := ns.filter fun n => !decide (n ∈ goneOf c)
def winL (ns : List (List Nat)) (st : Nat) (c : List Stp) : List (List Nat) := insOf c ++ if (insOf c).length < st then stays ns c else []
def winD (ns : List (List Nat)) (st : Nat) (c : List Stp) : D := .tup (sortD ((winL ns st c).map sD))
theorem eq_inS (b : Bool) : oEq' (.str (inS b)) (.str "in") = some (.bl b) := by
  show (if (D.str (inS b)).fit = true ∧ (D.str (inS true)).fit = true then some (D.bl ((D.str (inS b)).eqv (.str (inS true)) != false)) else none) = _
  rw [if_pos ⟨in_fit b, in_fit true⟩, eqv_str]
  cases b
  · rw [decide_eq_false (Ne.symm in_ne)]; rfl
  · rw [decide_eq_true rfl]; rfl
theorem nin_wordsL {x : List Nat} {g : List (List Nat)} (hx : IsWord x) (hw : ∀ l ∈ g, IsWord l) : oNin' (sD x) (.lst (g.map sD)) = some (.bl (!decide (x ∈ g))) := by
  have := nin_words (x := mkS x) (g := g) (fun c hc => by have := hx.ok c hc; unfold isLet at this; unfold isTx; omega) hw
  exact this
theorem coD_items (c : List Stp) : itemsD (coD c) = some (c.map stD) := rfl
theorem coD_own (c : List Stp) : noOwn (coD c) = some (coD c) := rfl
theorem og2_st {i j : Nat} {p : Stp} {ρ : Env} : og2 i j (stD p) ρ = some ((ρ.set i (some (.str (inS p.1)))).set j (some (sD p.2))) := rfl
theorem add_lst {a b : List D} (h : a.length + b.length ≤ 1000) : oAdd' (.lst a) (.lst b) = some (.lst (a ++ b)) := if_pos (sz h)
end DL
namespace V
open PySem L2 DL
theorem ins_lc {R v2 v3 v4 v5 : Option D} {c : List Stp} {s : Ds} (hl : c.length ≤ 1000) :
    mLc (mItems (mVar 1)) (og2 3 4) (mTest (mBin oEq' (mVar 3) (mC (.str "in")))) (mVar 4) [3, 4] [R, some (coD c), v2, v3, v4, v5] s = .ok (.lst ((insOf c).map sD)) s := by
  have := mLc_if (mi := mItems (mVar 1)) (og := og2 3 4) (mt := mTest (mBin oEq' (mVar 3) (mC (.str "in")))) (me := mVar 4) (vs := [3, 4]) (ρ := [R, some (coD c), v2, v3, v4, v5]) (s := s) c stD (fun p => p.1) (fun p => sD p.2) (by simp [coD_own, coD_items]) (fun p hp => ⟨_, og2_st, by simp [wipeD, eq_inS], fun _ => by simp [wipeD]⟩) (sz hl)
  rw [this]; unfold insOf; rw [List.map_map]; rfl
theorem gone_lc {R v2 v3 v4 v5 : Option D} {c : List Stp} {s : Ds} (hl : c.length ≤ 1000) :
    mLc (mItems (mVar 1)) (og2 3 4) mYes (mVar 4) [3, 4] [R, some (coD c), v2, v3, v4, v5] s = .ok (.lst ((goneOf c).map sD)) s := by
  have := mLc_of (mi := mItems (mVar 1)) (og := og2 3 4) (me := mVar 4) (vs := [3, 4]) (ρ := [R, some (coD c), v2, v3, v4, v5]) (s := s) c stD (fun p => sD p.2) (by simp [coD_own, coD_items]) (fun p hp => ⟨_, og2_st, by simp [wipeD]⟩) (sz hl)
  rw [this]; unfold goneOf; rw [List.map_map]; rfl
theorem stays_lc {m : FA} {R v1 v2 v3 v4 : Option D} {ns : List (List Nat)} {c : List Stp} {s : Ds} (hm : m [R, v1, v2, v3, v4, some (.lst ((goneOf c).map sD))] s = .ok (ns.map sD) s) (hw : ∀ l ∈ ns, IsWord l) (hg : ∀ l ∈ goneOf c, IsWord l) (hl : ns.length ≤ 1000) :
    mLc m (ogName 4) (mTest (mBin oNin' (mVar 4) (mVar 5))) (mVar 4) [4] [R, v1, v2, v3, v4, some (.lst ((goneOf c).map sD))] s = .ok (.lst ((stays ns c).map sD)) s := by
  refine mLc_if ns sD (fun n => !decide (n ∈ goneOf c)) sD hm (fun n hn => ⟨_, rfl, ?_, fun _ => by simp [wipeD]⟩) (sz hl)
  simp [wipeD, nin_wordsL (hw n hn) hg]
theorem stays_lc2 {m : FA} {r : RuleV} {v1 v3 v4 : Option D} {ins : List (List Nat)} {ns : List (List Nat)} {c : List Stp} {s : Ds} (hm : m [some r.tup, v1, some (.lst (ins.map sD)), v3, v4, some (.lst ((goneOf c).map sD))] s = .ok (ns.map sD) s) (hw : ∀ l ∈ ns, IsWord l) (hg : ∀ l ∈ goneOf c, IsWord l) (hl : ns.length ≤ 1000) :
    mLc m (ogName 4) (mAnd (mTest (mBin oNin' (mVar 4) (mVar 5))) (mTest (mBin oLt' (mCB oLen (mCons (mVar 2) mNil)) (mBin oIx' (mVar 0) (mC (.int 1)))))) (mVar 4) [4] [some r.tup, v1, some (.lst (ins.map sD)), v3, v4, some (.lst ((goneOf c).map sD))] s = .ok (.lst ((if ins.length < r.st then stays ns c else []).map sD)) s := by
  have := mLc_if (mi := m) (og := ogName 4) (mt := (mAnd (mTest (mBin oNin' (mVar 4) (mVar 5))) (mTest (mBin oLt' (mCB oLen (mCons (mVar 2) mNil)) (mBin oIx' (mVar 0) (mC (.int 1))))))) (me := mVar 4) (vs := [4]) ns sD (fun n => !decide (n ∈ goneOf c) && decide (ins.length < r.st)) sD hm (fun n hn => ⟨_, rfl, by
    simp [wipeD, nin_wordsL (hw n hn) hg, r.own, r.ix1], fun _ => by simp [wipeD]⟩) (sz hl)
  rw [this]
  congr 3
  by_cases h : ins.length < r.st
  · simp [h, stays]
  · simp [h]
end V

namespace DL
open PySem L2 PySem.W PyProof.Rows
theorem oRepr_pl {k : Nat} {d : D} (h : Pl k d) (hk : k ≤ 60) (hw : wt d ≤ 1000000) : oRepr [d] = some (.str (mkS (sc d))) := by
  have h1 := pl_rp k d h
  have h2 := pl_depth k d h
  have h3 := sc_len k d h
  have h4 : d.py.shown.length ≤ sizeLine := by
    have : d.py.shown.length = (sc d).length := rfl
    rw [this, sizeLine_v]; omega
  show (if d.rp = true ∧ d.py.depth ≤ 64 ∧ d.py.shown.length ≤ sizeLine then some (D.str d.py.shown) else none) = _
  rw [if_pos ⟨h1, by omega, h4⟩]; rfl
theorem wts_bound {m : Nat} : ∀ {ds : List D}, (∀ d ∈ ds, wt d ≤ m) → wts ds ≤ ds.length * (m + 2)
  | [], _ => by simp [wts]
  | d :: r, h => by
    have h1 := h d (List.mem_cons_self ..)
    have h2 := wts_bound (m := m) fun x mm => h x (List.mem_cons_of_mem _ mm)
    simp only [wts, List.length_cons, Nat.add_mul, Nat.one_mul]; omega
theorem word_tx {l : List Nat} (h : IsWord l) : ∀ c ∈ l, isTx c := fun c hc => by have := h.ok c hc; unfold isLet at this; unfold isTx; omega
theorem word_pl {l : List Nat} (k : Nat) (h : IsWord l) : Pl k (sD l) := by cases k <;> exact word_tx h
theorem word_wt {l : List Nat} (h : IsWord l) : wt (sD l) ≤ 10 := by have := h.le; show (mkS l).length + 2 ≤ 10; rw [len_mkS]; omega
theorem in_tx (b : Bool) : ∀ c ∈ (inS b).cps.toList, isTx c := by
  have : ∀ b : Bool, ((inS b).cps.toList.all fun c => decide (32 ≤ c) && (decide (c < 127) && (decide (c ≠ 39) && decide (c ≠ 92)))) = true := by decide +kernel
  intro c hc
  have := List.all_eq_true.mp (this b) c hc
  simp only [Bool.and_eq_true, decide_eq_true_eq] at this
  exact ⟨this.1, this.2.1, this.2.2.1, this.2.2.2⟩
theorem in_wt (b : Bool) : wt (.str (inS b)) ≤ 5 := by cases b <;> decide +kernel
theorem stD_ts {p : Stp} (h : IsWord p.2) : Ts 1 (stD p) := by
  intro d hd
  rcases List.mem_cons.mp hd with rfl | hd
  · exact in_tx _
  · rw [List.mem_singleton.mp hd]; exact word_tx h
theorem stD_wt {p : Stp} (h : IsWord p.2) : wt (stD p) ≤ 22 := by
  have h1 := in_wt p.1
  have h2 := word_wt h
  show wts [.str (inS p.1), sD p.2] + 3 ≤ 22
  simp only [wts]; omega
theorem coD_ts {c : List Stp} (h : ∀ p ∈ c, IsWord p.2) : Ts 2 (coD c) := by
  intro d hd
  obtain ⟨p, hp, rfl⟩ := List.mem_map.mp hd
  exact stD_ts (h p hp)
theorem coD_wt {c : List Stp} (h : ∀ p ∈ c, IsWord p.2) (hl : c.length ≤ 5) : wt (coD c) ≤ 123 := by
  have := wts_bound (m := 22) (ds := c.map stD) fun d hd => by
    obtain ⟨p, hp, rfl⟩ := List.mem_map.mp hd
    exact stD_wt (h p hp)
  rw [List.length_map] at this
  have h2 : c.length * 24 ≤ 5 * 24 := Nat.mul_le_mul_right _ hl
  show wts (c.map stD) + 3 ≤ 123
  omega
theorem winL_words {ns : List (List Nat)} {st : Nat} {c : List Stp} (hw : ∀ l ∈ ns, IsWord l) (hc : ∀ p ∈ c, p.2 ∈ ns) : ∀ l ∈ winL ns st c, IsWord l := by
  intro l hl
  unfold winL at hl
  rcases List.mem_append.mp hl with h | h
  · obtain ⟨p, hp, rfl⟩ := List.mem_map.mp h
    exact hw _ (hc p (List.mem_filter.mp hp).1)
  · split at h
    · exact hw _ (List.mem_filter.mp h).1
    · cases h
theorem winL_len {ns : List (List Nat)} {st : Nat} {c : List Stp} (h4 : ns.length ≤ 4) (hl : c.length ≤ 5) : (winL ns st c).length ≤ 9 := by
  unfold winL
  rw [List.length_append]
  have h1 : (insOf c).length ≤ 5 := by unfold insOf; rw [List.length_map]; exact Nat.le_trans (List.length_filter_le _ _) hl
  have h2 : (if (insOf c).length < st then stays ns c else []).length ≤ 4 := by
    split
    · exact Nat.le_trans (List.length_filter_le _ _) h4
    · simp
  omega
theorem winD_pl {ns : List (List Nat)} {st : Nat} {c : List Stp} (hw : ∀ l ∈ ns, IsWord l) (hc : ∀ p ∈ c, p.2 ∈ ns) : Pl 1 (winD ns st c) := by
  intro d hd
  obtain ⟨l, hl, rfl⟩ := List.mem_map.mp ((sortD_perm _).subset hd)
  exact word_tx (winL_words hw hc l hl)
theorem winD_wt {ns : List (List Nat)} {st : Nat} {c : List Stp} (hw : ∀ l ∈ ns, IsWord l) (hc : ∀ p ∈ c, p.2 ∈ ns) (h4 : ns.length ≤ 4) (hl : c.length ≤ 5) : wt (winD ns st c) ≤ 200 := by
  have h1 := wts_bound (m := 10) (ds := sortD ((winL ns st c).map sD)) fun d hd => by
    obtain ⟨l, hl, rfl⟩ := List.mem_map.mp ((sortD_perm _).subset hd)
    exact word_wt (winL_words hw hc l hl)
  have h2 := (sortD_perm ((winL ns st c).map sD)).length_eq
  rw [List.length_map] at h2
  have h3 := winL_len (st := st) h4 hl
  rw [h2] at h1
  have h5 : (winL ns st c).length * 12 ≤ 9 * 12 := Nat.mul_le_mul_right _ h3
  show wts (sortD ((winL ns st c).map sD)) + 3 ≤ 200
  omega
theorem winD_fit {ns : List (List Nat)} {st : Nat} {c : List Stp} (hw : ∀ l ∈ ns, IsWord l) (hc : ∀ p ∈ c, p.2 ∈ ns) : (winD ns st c).fit = true := by
  have e : sortD ((winL ns st c).map sD) = ((sortD ((winL ns st c).map sD)).map codesOf).map sD := by
    rw [List.map_map]
    conv => lhs; rw [← List.map_id (sortD ((winL ns st c).map sD))]
    refine List.map_congr_left fun d hd => ?_
    obtain ⟨l, _, rfl⟩ := List.mem_map.mp ((sortD_perm _).subset hd)
    rfl
  unfold winD
  rw [e]
  refine words_fit fun l hl => ?_
  obtain ⟨d, hd, rfl⟩ := List.mem_map.mp hl
  obtain ⟨l, hl', rfl⟩ := List.mem_map.mp ((sortD_perm _).subset hd)
  exact winL_words hw hc l hl'
end DL
namespace V
open PySem L2 DL
theorem courses_words {r : RuleV} (h : GoodRule r) {c : List Stp} (hc : c ∈ courses 5 r.ns r.st) : (∀ p ∈ c, p.2 ∈ r.ns) ∧ (∀ p ∈ c, IsWord p.2) ∧ c.length ≤ 5 :=
  have h1 := courses_in 5 r.ns r.st c hc
  ⟨h1, fun p hp => h.nm.words _ (h1 p hp), courses_steps 5 _ _ c hc⟩
theorem nodup_of_asc {ns : List (List Nat)} (h : ns.Pairwise (· < ·)) : ns.Nodup := h.imp fun hlt e => by rw [e] at hlt; exact List.lt_irrefl _ hlt
end V

namespace DL
open PySem L2 PySem.W PyProof.Rows
def txB (c : Nat) : Bool := decide (32 ≤ c) && (decide (c < 127) && (decide (c ≠ 39) && decide (c ≠ 92)))
theorem txB_iff {c : Nat} : txB c = true ↔ isTx c := by unfold txB isTx; simp
def plB : Nat → D → Bool
  | _, .non => true
  | _, .bl _ => true
  | _, .int i => decide (i.natAbs < 10 ^ 40)
  | _, .str x => x.cps.toList.all txB
  | _, .dct kvs => kvs.isEmpty
  | k + 1, .tup ds => ds.all (plB k)
  | k + 1, .lst ds => ds.all (plB k)
  | _, _ => false
theorem plB_ok : ∀ (k : Nat) (d : D), plB k d = true → Pl k d := by
  intro k
  induction k with
  | zero =>
    intro d h
    cases d <;> first | trivial | (cases h; done) | skip
    · rename_i i; exact of_decide_eq_true (p := i.natAbs < 10 ^ 40) h
    · exact fun c hc => txB_iff.mp (List.all_eq_true.mp h c hc)
    · exact List.isEmpty_iff.mp h
  | succ k ih =>
    intro d h
    cases d <;> first | trivial | (cases h; done) | skip
    · rename_i i; exact of_decide_eq_true (p := i.natAbs < 10 ^ 40) h
    · exact fun c hc => txB_iff.mp (List.all_eq_true.mp h c hc)
    · exact fun x hx => ih x (List.all_eq_true.mp h x hx)
    · exact fun x hx => ih x (List.all_eq_true.mp h x hx)
    · exact List.isEmpty_iff.mp h
def odd1 : List D := [.non, .int 0, .int 1, .int 2, .int 3, .int (-1), .int 101, .int (-10), .bl true, .bl false, .str "", .str "a", .str "abcdefghi", .str "A", .str "in", .str "out", .tup [], .tup [.tup []], .tup [.str "a", .int 0]]
def odd2 : List D := [.lst [], .dct [], .int (10 ^ 30), .tup [.str "halves"], .tup [.str "in", .str "a"], .str "a1", .tup [.non], .tup [.int 0], .tup [.str "a"], .tup [.str "b", .str "a"]]
theorem odd_all : ∀ d ∈ odd1 ++ odd2, plB 2 d = true ∧ wt d ≤ 60 := by
  have : ((odd1 ++ odd2).all fun d => plB 2 d && decide (wt d ≤ 60)) = true := by decide +kernel
  intro d hd
  have := List.all_eq_true.mp this d hd
  rw [Bool.and_eq_true, decide_eq_true_eq] at this
  exact this
theorem pow30 : oPow' (.int 10) (.int 30) = some (.int (10 ^ 30)) := by
  show (if CPow 10 30 then some (D.int (10 ^ (30 : Int).toNat)) else none) = _
  rw [if_pos (by decide +kernel)]
  rfl
end DL
namespace V
open PySem L2 DL
theorem odd_post {a : Addr} {n : Int} {ob : List (Addr × D)} {Q : D → Ds → Prop} {E : Str → List (Str × D) → Ds → Prop} (hn : n + 1 ≤ 10 ^ 15)
    (h : ∀ d, Pl 2 d → wt d ≤ 60 → Q d ⟨some (a, n + 1), ob⟩) : (c_law_odd [.ref a] ⟨some (a, n), ob⟩).post Q E := by
  simp [c_law_odd, m_law_odd, pow30]
  rw [add_lst (by simp)]
  simp
  refine next_post (by omega) (by omega) (by omega) fun r h0 h1 => ?_
  obtain ⟨d, e, hd⟩ := ix_all (xs := odd1 ++ odd2) (fun d => Pl 2 d ∧ wt d ≤ 60) h0 (by simpa [odd1, odd2] using h1) (fun d hd => ⟨plB_ok 2 d (odd_all d hd).1, (odd_all d hd).2⟩)
  have e' := e
  simp only [odd1, odd2, List.cons_append, List.nil_append] at e'
  simp at e'
  rw [e']
  simp
  exact h d hd.1 hd.2
end V

namespace DL
open PySem L2 PySem.W PyProof.Rows
theorem cut_tup (ds : List D) (lo hi : Option Int) : ∃ ys, oCut (.tup ds) lo hi = some (.tup ys) ∧ (∀ y ∈ ys, y ∈ ds) ∧ wts ys ≤ wts ds ∧ ys.length ≤ ds.length := by
  refine ⟨_, rfl, fun y hy => List.mem_of_mem_drop (List.mem_of_mem_take hy), ?_, ?_⟩
  · show wts ((ds.drop (HT.sIx ds.length 0 lo)).take (HT.sIx ds.length ds.length hi - HT.sIx ds.length 0 lo)) ≤ wts ds
    have h1 := wts_cut ds (HT.sIx ds.length 0 lo)
    have h2 := wts_cut (ds.drop (HT.sIx ds.length 0 lo)) (HT.sIx ds.length ds.length hi - HT.sIx ds.length 0 lo)
    omega
  · show ((ds.drop (HT.sIx ds.length 0 lo)).take (HT.sIx ds.length ds.length hi - HT.sIx ds.length 0 lo)).length ≤ ds.length
    rw [List.length_take, List.length_drop]; omega
theorem cut_str {x : Str} (hx : x.length ≤ 1000) (lo hi : Option Int) : ∃ y, oCut (.str x) lo hi = some (.str y) ∧ (∀ c ∈ y.cps.toList, c ∈ x.cps.toList) ∧ y.length ≤ x.length := by
  rw [← mkS_cps x]
  refine ⟨_, cut_mkS (l := x.cps.toList) (by simpa [Str.length] using hx), fun y hy => List.mem_of_mem_drop (List.mem_of_mem_take hy), ?_⟩
  rw [len_mkS, len_mkS]
  unfold cutL
  rw [List.length_take, List.length_drop]; omega
theorem add_str {x y : Str} (h : x.length + y.length ≤ 1000) : oAdd' (.str x) (.str y) = some (.str (x ++ y)) := if_pos (sz h)
theorem add_tup {x y : List D} (h : x.length + y.length ≤ 1000) : oAdd' (.tup x) (.tup y) = some (.tup (x ++ y)) := if_pos (sz h)
theorem len_app (x y : Str) : (x ++ y).length = x.length + y.length := by
  show (x ++ y).cps.size = x.cps.size + y.cps.size
  rw [← Array.length_toList, cps_toList_append, List.length_append, Array.length_toList, Array.length_toList]
theorem mul2_str {x : Str} (h : x.length ≤ 500) : ∃ y, oMul' (.str x) (.int 2) = some (.str y) ∧ (∀ c ∈ y.cps.toList, c ∈ x.cps.toList) ∧ y.length ≤ 2 * x.length := by
  have hm : PySem.MulOk x 2 := by
    refine ⟨by decide, fun _ _ => ?_, fun _ _ => ?_⟩
    · show ¬ ((x.length : Nat) : Int) > (2 ^ 63 - 1) / 2
      have : (500 : Int) ≤ (2 ^ 63 - 1) / 2 := by decide
      omega
    · show PySem.Builtin.Str.tooLong (x.length * (2 : Int).toNat) = false
      unfold PySem.Builtin.Str.tooLong
      have : x.length * (2 : Int).toNat ≤ 1000 := by show x.length * 2 ≤ 1000; omega
      simp
      exact Nat.le_trans this (by decide)
  refine ⟨Txt.mul x 2, if_pos hm, ?_, ?_⟩
  · unfold Txt.mul
    rw [if_neg (by decide)]
    split
    · exact fun c hc => hc
    · intro c hc
      have e : (⟨(List.replicate (2 : Int).toNat x.cps).foldl (· ++ ·) #[]⟩ : Str).cps.toList = x.cps.toList ++ x.cps.toList := by
        show ((#[] ++ x.cps) ++ x.cps).toList = _
        simp
      rw [e] at hc
      exact (List.mem_append.mp hc).elim id id
  · unfold Txt.mul
    rw [if_neg (by decide)]
    split
    · omega
    · have e : (⟨(List.replicate (2 : Int).toNat x.cps).foldl (· ++ ·) #[]⟩ : Str).length = x.length + x.length := by
        show ((#[] ++ x.cps) ++ x.cps).size = x.cps.size + x.cps.size
        simp
      rw [e]; omega
theorem tx_app {x y : Str} (h1 : ∀ c ∈ x.cps.toList, isTx c) (h2 : ∀ c ∈ y.cps.toList, isTx c) : ∀ c ∈ (x ++ y).cps.toList, isTx c := by
  intro c hc
  rw [cps_toList_append] at hc
  exact (List.mem_append.mp hc).elim (h1 c) (h2 c)
theorem lit_tx {y : Str} (h : y.cps.toList.all txB = true) : ∀ c ∈ y.cps.toList, isTx c := fun c hc => txB_iff.mp (List.all_eq_true.mp h c hc)
theorem oEq_nil {xs : List D} : oEq' (.tup xs) (.tup []) = some (.bl xs.isEmpty) := by
  show some (D.bl (xs.isEmpty != false)) = _
  cases xs <;> rfl
end DL
namespace V
open PySem L2 DL
theorem bent_str {self : FF} {a : Addr} {n : Int} {ob : List (Addr × D)} {x : Str} {Q : D → Ds → Prop} {E : Str → List (Str × D) → Ds → Prop} (hx : ∀ c ∈ x.cps.toList, isTx c) (hl : x.length ≤ 400) (hn : n + 4 ≤ 10 ^ 15)
    (h : ∀ d j, 0 ≤ j → j ≤ 4 → Pl 2 d → wt d ≤ 2 * wt (.str x) + 70 → Q d ⟨some (a, n + j), ob⟩) : (callF 2 4 (m_law_bent self) [.ref a, .str x] ⟨some (a, n), ob⟩).post Q E := by
  have hP : ∀ y : Str, (∀ c ∈ y.cps.toList, isTx c) → y.length ≤ 2 * x.length + 10 → Pl 2 (.str y) ∧ wt (.str y) ≤ 2 * wt (.str x) + 70 := fun y h1 h2 => ⟨h1, by show y.length + 2 ≤ 2 * (x.length + 2) + 70; omega⟩
  have i1 : isT "int" (.str x) = false := rfl
  have i2 : isT "tuple" (.str x) = false := rfl
  simp [m_law_bent, isi_str]
  refine next_post (by omega) (by omega) (by omega) fun r h0 h1 => ?_
  simp
  by_cases hr : r = 0
  · obtain ⟨y1, e1, t1, l1⟩ := cut_str (x := x) (by omega) (some 1) none
    obtain ⟨y2, e2, t2, l2⟩ := mul2_str (x := x) (by omega)
    have b1 : (("b" : Str)).length = 1 := by decide +kernel
    have b2 : (("A" : Str)).length = 1 := by decide +kernel
    have b3 : ((" " : Str)).length = 1 := by decide +kernel
    have b4 : (("1" : Str)).length = 1 := by decide +kernel
    simp [hr, add_str (x := x) (y := "b") (by omega), add_str (x := x) (y := "A") (by omega), add_str (x := x) (y := " ") (by omega), add_str (x := x) (y := "1") (by omega), e1, e2]
    refine next_post (by omega) (by omega) (by omega) fun r2 h2 h3 => ?_
    obtain ⟨d, e, hd⟩ := ix_all (xs := [.str (x ++ "b"), .str y1, .str (x ++ "A"), .str (x ++ " "), .str y2, .str (x ++ "1")]) (fun d => Pl 2 d ∧ wt d ≤ 2 * wt (.str x) + 70) h2 (by simpa using h3) (by
      intro d hd
      simp only [List.mem_cons, List.not_mem_nil, or_false] at hd
      rcases hd with rfl | rfl | rfl | rfl | rfl | rfl
      · exact hP _ (tx_app hx (lit_tx (by decide +kernel))) (by rw [len_app]; omega)
      · exact hP _ (fun c hc => hx c (t1 c hc)) (by omega)
      · exact hP _ (tx_app hx (lit_tx (by decide +kernel))) (by rw [len_app]; omega)
      · exact hP _ (tx_app hx (lit_tx (by decide +kernel))) (by rw [len_app]; omega)
      · exact hP _ (fun c hc => hx c (t2 c hc)) (by omega)
      · exact hP _ (tx_app hx (lit_tx (by decide +kernel))) (by rw [len_app]; omega))
    rw [e]
    simp
    have := h d 2 (by omega) (by omega) hd.1 hd.2
    rw [show n + 1 + 1 = n + 2 by omega]
    exact this
  · simp [hr, isi_str, i1, i2]
    refine odd_post (by omega) fun d h2 h3 => ?_
    have := h d 2 (by omega) (by omega) h2 (by omega)
    rw [show n + 1 + 1 = n + 2 by omega]
    exact this
theorem bent_tup {self : FF} {a : Addr} {n : Int} {ob : List (Addr × D)} {k J : Nat} {ds : List D} {Q : D → Ds → Prop} {E : Str → List (Str × D) → Ds → Prop} (hk : ∀ d ∈ ds, Pl k d) (hl : wts ds ≤ 400) (hn : n + J + 4 ≤ 10 ^ 15)
    (hs : ∀ x ∈ ds, ∀ (m : Int) (Q' : D → Ds → Prop) (E' : Str → List (Str × D) → Ds → Prop), m + J ≤ 10 ^ 15 → (∀ d j, 0 ≤ j → j ≤ (J : Int) → Pl (k + 3) d → wt d ≤ 2 * wt x + 70 → Q' d ⟨some (a, m + j), ob⟩) → (self [.ref a, x] ⟨some (a, m), ob⟩).post Q' E')
    (h : ∀ d j, 0 ≤ j → j ≤ (J : Int) + 4 → Pl (k + 4) d → wt d ≤ 2 * wt (.tup ds) + 70 → Q d ⟨some (a, n + j), ob⟩) : (callF 2 4 (m_law_bent self) [.ref a, .tup ds] ⟨some (a, n), ob⟩).post Q E := by
  have i1 : isT "int" (.tup ds) = false := rfl
  have i2 : isT "str" (.tup ds) = false := rfl
  have hwt : wt (.tup ds) = wts ds + 3 := rfl
  have hlen := wts_len ds
  have hodd : ∀ d, Pl 2 d → wt d ≤ 60 → ∀ j, 0 ≤ j → j ≤ (J : Int) + 4 → Q d ⟨some (a, n + j), ob⟩ := fun d h1 h2 j h3 h4 => h d j h3 h4 (h1.mono (by omega)) (by omega)
  have hP : ∀ ys : List D, (∀ y ∈ ys, Pl (k + 3) y) → Pl (k + 4) (.tup ys) := fun ys hy => hy
  simp [m_law_bent, isi_tup, i1, i2, oEq_nil]
  by_cases he : ds = []
  · subst he
    simp
    refine odd_post (by omega) fun d h2 h3 => ?_
    exact hodd d h2 h3 1 (by omega) (by omega)
  have hem : ds.isEmpty = false := by cases ds with | nil => exact absurd rfl he | cons _ _ => rfl
  have hpos : 1 ≤ ds.length := by cases ds with | nil => exact absurd rfl he | cons _ _ => simp
  simp [he, hem]
  refine next_post (by omega) (by omega) (by omega) fun r h0 h1 => ?_
  simp
  by_cases hr : r = 0
  · simp [hr]
    refine odd_post (by omega) fun d h2 h3 => ?_
    rw [show n + 1 + 1 = n + 2 by omega]
    exact hodd d h2 h3 2 (by omega) (by omega)
  simp [hr]
  refine next_post (by omega) (by omega) (by omega) fun r1 h2 h3 => ?_
  simp
  refine next_post (by omega) (by omega) (by omega) fun r2 h4 h5 => ?_
  obtain ⟨i, rfl⟩ := Int.eq_ofNat_of_zero_le h2
  have hi : i < ds.length := by omega
  simp
  have e3 : n + 1 + 1 + 1 = n + 3 := by omega
  rw [e3]
  obtain ⟨ya, ea, ma, wa, la⟩ := cut_tup ds none (some (i : Int))
  obtain ⟨yb, eb, mb, wb, lb⟩ := cut_tup ds (some ((i : Int) + 1)) none
  obtain ⟨yc, ec, mc, wc, lc⟩ := cut_tup ds (some (i : Int)) (some ((i : Int) + 1))
  obtain ⟨yd, ed, md, wd, ld⟩ := cut_tup ds (some (i : Int)) none
  have pk : ∀ d ∈ ds, Pl (k + 3) d := fun d m => (hk d m).mono (by omega)
  by_cases c0 : r2 = 0
  · simp [c0, ea, eb]
    rw [add_tup (by omega)]
    simp
    refine h _ 3 (by omega) (by omega) (hP _ fun y hy => ?_) ?_
    · exact (List.mem_append.mp hy).elim (fun m => pk y (ma y m)) (fun m => pk y (mb y m))
    · show wts (ya ++ yb) + 3 ≤ _
      rw [wts_append]; omega
  by_cases c1 : r2 = 1
  · simp [c1, ec]
    rw [add_tup (by omega)]
    simp
    refine h _ 3 (by omega) (by omega) (hP _ fun y hy => ?_) ?_
    · exact (List.mem_append.mp hy).elim (fun m => pk y m) (fun m => pk y (mc y m))
    · show wts (ds ++ yc) + 3 ≤ _
      rw [wts_append]; omega
  by_cases c2 : r2 = 2
  · simp [c2]
    refine h _ 3 (by omega) (by omega) (show Pl (k + 3 + 1) (.lst ds) from pk) ?_
    show wts ds + 2 ≤ _
    omega
  by_cases c3 : r2 = 3
  · simp [c3, ea]
    refine odd_post (by omega) fun d h6 h7 => ?_
    simp [ed]
    rw [add_tup (by simp; omega)]
    simp
    rw [add_tup (by simp; omega)]
    simp
    rw [show n + 3 + 1 = n + 4 by omega]
    refine h _ 4 (by omega) (by omega) (hP _ fun y hy => ?_) ?_
    · rcases List.mem_append.mp hy with m | m
      · exact pk y (ma y m)
      · rcases List.mem_cons.mp m with rfl | m
        · exact h6.mono (by omega)
        · exact pk y (md y m)
    · show wts (ya ++ d :: yd) + 3 ≤ _
      rw [wts_append, wts]; omega
  by_cases c4 : r2 = 4
  · simp [c4]
    refine h _ 3 (by omega) (by omega) (hP _ fun y hy => pk y (List.mem_reverse.mp hy)) ?_
    show wts ds.reverse + 3 ≤ _
    rw [wts_rev]; omega
  simp [c0, c1, c2, c3, c4]
  have ex : oIx' (.tup ds) (.int (i : Int)) = some ds[i] := ix_tup hi
  have et : oCut (.tup ds) none (some (i : Int)) = some (.tup (ds.take i)) := cut_tup_to ds i
  have eu : oCut (.tup ds) (some ((i : Int) + 1)) none = some (.tup (ds.drop (i + 1))) := by
    have := cut_tup_from ds (i + 1)
    rw [show ((i + 1 : Nat) : Int) = (i : Int) + 1 by omega] at this
    exact this
  simp [et, ex]
  refine hs ds[i] (List.getElem_mem hi) (n + 3) _ _ (by omega) fun d j j0 j1 h6 h7 => ?_
  simp [eu]
  rw [add_tup (by simp; omega)]
  simp
  rw [add_tup (by simp; omega)]
  simp
  rw [show n + 3 + j = n + (3 + j) by omega]
  refine h _ (3 + j) (by omega) (by omega) (hP _ fun y hy => ?_) ?_
  · rcases List.mem_append.mp hy with m | m
    · exact pk y (List.mem_of_mem_take m)
    · rcases List.mem_cons.mp m with rfl | m
      · exact h6
      · exact pk y (List.mem_of_mem_drop m)
  · show wts (ds.take i ++ d :: ds.drop (i + 1)) + 3 ≤ _
    have w1 := wts_cut ds i
    have w2 : wts (ds.drop i) = wt ds[i] + 2 + wts (ds.drop (i + 1)) := by rw [← List.getElem_cons_drop hi, wts]
    rw [wts_append, wts]; omega
theorem bent_post {a : Addr} {ob : List (Addr × D)} : ∀ (k : Nat) (d : D) (n : Int) (Q : D → Ds → Prop) (E : Str → List (Str × D) → Ds → Prop), Ts k d → wt d ≤ 400 → n + 4 * (k + 1) ≤ 10 ^ 15 →
    (∀ d' j, 0 ≤ j → j ≤ ((4 * (k + 1) : Nat) : Int) → Pl (k + 3) d' → wt d' ≤ 2 * wt d + 70 → Q d' ⟨some (a, n + j), ob⟩) → (c_law_bent (k + 1) [.ref a, d] ⟨some (a, n), ob⟩).post Q E := by
  intro k
  induction k with
  | zero =>
    intro d n Q E hd hw hn h
    cases d <;> first | (unfold Ts at hd; exact hd.elim) | skip
    rename_i x
    have hx : x.length + 2 ≤ 400 := hw
    exact bent_str (self := c_law_bent 0) hd (by omega) (by omega) fun d' j h0 h1 h2 h3 => h d' j h0 (by omega) (h2.mono (by omega)) h3
  | succ k ih =>
    intro d n Q E hd hw hn h
    cases d <;> first | (unfold Ts at hd; exact hd.elim) | skip
    · rename_i x
      have hx : x.length + 2 ≤ 400 := hw
      exact bent_str (self := c_law_bent (k + 1)) hd (by omega) (by omega) fun d' j h0 h1 h2 h3 => h d' j h0 (by omega) (h2.mono (by omega)) h3
    · rename_i ds
      have hds : wts ds + 3 ≤ 400 := hw
      have hd' : ∀ x ∈ ds, Ts k x := hd
      refine bent_tup (self := c_law_bent (k + 1)) (k := k) (J := 4 * (k + 1)) (fun x m => (hd' x m).pl) (by omega) (by omega) (fun x hx m Q' E' hm h' => ?_) fun d' j h0 h1 h2 h3 => h d' j h0 (by omega) h2 h3
      have := wts_mem hx
      exact ih x m Q' E' (hd' x hx) (by omega) (by omega) h'
end V

namespace DL
open PySem L2 PySem.W PyProof.Rows
theorem Ts.mono : ∀ {k n : Nat} {d : D}, k ≤ n → Ts k d → Ts n d := by
  intro k
  induction k with
  | zero =>
    intro n d _ h
    cases n <;> cases d <;> first | exact h | (unfold Ts at h; exact h.elim)
  | succ k ih =>
    intro n d hn h
    obtain ⟨m, rfl⟩ : ∃ m, n = m + 1 := ⟨n - 1, by omega⟩
    cases d <;> first | exact h | (unfold Ts at h; exact h.elim) | skip
    exact fun x mm => ih (by omega) (h x mm)
structure FitK (k : Nat) (d : D) : Prop where
  pu : d.pure = true
  la : d.py.canLay0 = true
  de : d.py.depth ≤ k
theorem FitK.fit {k : Nat} {d : D} (h : FitK k d) (hk : k ≤ 64) : d.fit = true := by
  show (d.pure && (d.py.canLay0 && decide (d.py.depth ≤ 64))) = true
  rw [h.pu, h.la, decide_eq_true (Nat.le_trans h.de hk)]; rfl
theorem fitKs {k : Nat} : ∀ {ds : List D}, (∀ d ∈ ds, FitK k d) → D.pures ds = true ∧ PyData.canLayAll0 (D.pys ds) = true ∧ PyData.depthAll (D.pys ds) ≤ k
  | [], _ => ⟨rfl, rfl, Nat.zero_le _⟩
  | d :: r, h => by
    obtain ⟨h1, h2, h3⟩ := fitKs fun x m => h x (List.mem_cons_of_mem _ m)
    have h0 := h d (List.mem_cons_self ..)
    refine ⟨?_, ?_, ?_⟩
    · show (d.pure && D.pures r) = true; rw [h0.pu, h1]; rfl
    · show (d.py.canLay0 && PyData.canLayAll0 (D.pys r)) = true; rw [h0.la, h2]; rfl
    · show max d.py.depth (PyData.depthAll (D.pys r)) ≤ k; exact Nat.max_le.mpr ⟨h0.de, h3⟩
theorem fitK_tup {k : Nat} {ds : List D} (h : ∀ d ∈ ds, FitK k d) : FitK (k + 1) (.tup ds) := let ⟨a, b, c⟩ := fitKs h; ⟨a, b, Nat.succ_le_succ c⟩
theorem fitK_lst {k : Nat} {ds : List D} (h : ∀ d ∈ ds, FitK k d) : FitK (k + 1) (.lst ds) := let ⟨a, b, c⟩ := fitKs h; ⟨a, b, Nat.succ_le_succ c⟩
theorem fitK_str {k : Nat} {x : Str} (h : ∀ c ∈ x.cps.toList, c < 0x110000) : FitK k (.str x) := ⟨rfl, by
  have := strOk_mkS (l := x.cps.toList) h
  exact this, Nat.zero_le _⟩
theorem ts_fitK : ∀ (k : Nat) (d : D), Ts k d → FitK k d := by
  intro k
  induction k with
  | zero =>
    intro d h
    cases d <;> first | (unfold Ts at h; exact h.elim) | skip
    exact fitK_str fun c hc => by have := (h c hc).2.1; omega
  | succ k ih =>
    intro d h
    cases d <;> first | (unfold Ts at h; exact h.elim) | skip
    · exact fitK_str fun c hc => by have := (h c hc).2.1; omega
    · exact fitK_tup fun x m => ih x (h x m)
/-! repr of a text -/
theorem reprChar_small : ∀ c < 127, ∀ q ∈ [34, 39], ((Builtin.Str.reprChar q c).all fun x => decide (x < 127)) = true := by decide +kernel
theorem reprText_small {x : Str} (h : ∀ c ∈ x.cps.toList, c < 127) : ∀ c ∈ (reprText x).cps.toList, c < 127 := by
  have hq : reprQuote x ∈ [34, 39] := by unfold reprQuote; split <;> simp
  have go : ∀ (l : List Nat) (acc : Array Nat), (∀ c ∈ l, c < 127) → (∀ c ∈ acc.toList, c < 127) → ∀ c ∈ (l.foldl (fun out c => out ++ (Builtin.Str.reprChar (reprQuote x) c).toArray) acc).toList, c < 127 := by
    intro l
    induction l with
    | nil => intro acc _ ha; exact ha
    | cons d r ih =>
      intro acc hl ha
      rw [List.foldl_cons]
      refine ih _ (fun c m => hl c (List.mem_cons_of_mem _ m)) fun c hc => ?_
      simp only [Array.toList_append, List.mem_append] at hc
      rcases hc with hc | hc
      · exact ha c hc
      · have := List.all_eq_true.mp (reprChar_small d (hl d (List.mem_cons_self ..)) _ hq) c hc
        exact of_decide_eq_true this
  intro c hc
  unfold reprText at hc
  have hc' : c ∈ (x.cps.foldl (fun out c => out ++ (Builtin.Str.reprChar (reprQuote x) c).toArray) #[reprQuote x]).toList ++ [reprQuote x] := by simpa using hc
  rcases List.mem_append.mp hc' with m | m
  · rw [← Array.foldl_toList] at m
    refine go _ _ h (fun d hd => ?_) c m
    have : d = reprQuote x := by simpa using hd
    rw [this]
    rcases List.mem_cons.mp hq with e | e
    · rw [e]; decide
    · rw [List.mem_singleton.mp e]; decide
  · rw [List.mem_singleton.mp m]
    rcases List.mem_cons.mp hq with e | e
    · rw [e]; decide
    · rw [List.mem_singleton.mp e]; decide
theorem oRepr_str {x : Str} (h : ∀ c ∈ x.cps.toList, c < 127) (hl : x.length ≤ 1000000) : oRepr [.str x] = some (.str (reprText x)) := by
  have h1 : (reprText x).length ≤ sizeLine := by
    have := StrLaws.reprText_len x fun c hc => Nat.lt_trans (h c hc) (by decide)
    rw [sizeLine_v]; omega
  show (if (D.str x).rp = true ∧ (D.str x).py.depth ≤ 64 ∧ (PyData.shown (.str x)).length ≤ sizeLine then some (D.str (PyData.shown (.str x))) else none) = _
  rw [PyData.shown_str, if_pos ⟨rfl, Nat.zero_le _, h1⟩]
theorem sc_small {k : Nat} {d : D} (h : Pl k d) : ∀ c ∈ (mkS (sc d)).cps.toList, c < 127 := sc_ok k d h
theorem cnt_tab : ∀ n ∈ ([2, 3, 4] : List Nat), ∀ st < n, 1 ≤ st → (oIx' (.lst [.lst [.int 4], .lst [.int 15, .int 15], .lst [.int 64, .int 120, .int 64]]) (.int ((n : Int) - 2))).bind (fun x => oIx' x (.int ((st : Int) - 1))) = some (.int (cnt 5 n st)) := by
  intro n hn st h1 h2
  simp only [List.mem_cons, List.not_mem_nil, or_false] at hn
  rcases hn with rfl | rfl | rfl
  · obtain rfl : st = 1 := by omega
    rfl
  · rcases (show st = 1 ∨ st = 2 by omega) with rfl | rfl <;> rfl
  · rcases (show st = 1 ∨ st = 2 ∨ st = 3 by omega) with rfl | rfl | rfl <;> rfl
end DL

namespace DL
open PySem L2 PySem.W PyProof.Rows
noncomputable def eqD (d e : D) : Bool := @decide (d = e) (Classical.propDecidable _)
theorem eqD_iff {d e : D} : eqD d e = true ↔ d = e := @decide_eq_true_iff _ (Classical.propDecidable _)
theorem in_texts {k : Nat} {d : D} {ls : List (List Stp)} (hd : Pl k d) (hls : ∀ c ∈ ls, ∀ p ∈ c, IsWord p.2) :
    oIn' (.str (mkS (sc d))) (.lst (ls.map fun c => .str (mkS (sc (coD c))))) = some (.bl (ls.any fun c => eqD (d) (coD c))) := by
  have f1 : (D.str (mkS (sc d))).fit = true := (fitK_str (k := 0) fun c hc => Nat.lt_trans (sc_ok k d hd c hc) (by decide)).fit (by decide)
  have h1 : ((ls.map fun c => D.str (mkS (sc (coD c)))).all fun y => eqOk y (.str (mkS (sc d)))) = true := List.all_eq_true.mpr fun y hy => by
    obtain ⟨c, hc, rfl⟩ := List.mem_map.mp hy
    refine eqOk_fit ((fitK_str (k := 0) fun x hx => Nat.lt_trans (sc_ok 2 _ (coD_ts (hls c hc)).pl x hx) (by decide)).fit (by decide)) f1
  have h2 : ((ls.map fun c => D.str (mkS (sc (coD c)))).any fun y => y.eqv (.str (mkS (sc d)))) = ls.any fun c => eqD (d) (coD c) := by
    rw [List.any_map]
    apply Bool.eq_iff_iff.mpr
    rw [List.any_eq_true, List.any_eq_true]
    constructor
    · rintro ⟨c, hc, e⟩
      refine ⟨c, hc, eqD_iff.mpr ?_⟩
      have e' : (D.str (mkS (sc (coD c)))).eqv (.str (mkS (sc d))) = true := e
      rw [eqv_str, decide_eq_true_iff] at e'
      exact shown_inj (coD_ts (hls c hc)) hd e'.symm
    · rintro ⟨c, hc, e⟩
      refine ⟨c, hc, ?_⟩
      show (D.str (mkS (sc (coD c)))).eqv (.str (mkS (sc d))) = true
      rw [eqv_str, decide_eq_true_iff, eqD_iff.mp e]
  show (if ((ls.map fun c => D.str (mkS (sc (coD c)))).all fun y => eqOk y (.str (mkS (sc d)))) = true then some (D.bl (((ls.map fun c => D.str (mkS (sc (coD c)))).any fun y => y.eqv (.str (mkS (sc d)))) != false)) else none) = _
  rw [if_pos h1, h2]
  cases (ls.any fun c => eqD (d) (coD c)) <;> rfl
end DL
namespace V
open PySem L2 DL
end V

namespace DL
open PySem L2 PySem.W PyProof.Rows
def Th (d : D) : Prop := Pl 9 d ∧ wt d ≤ 1000
theorem cnt_pos : ∀ (k n st : Nat), n < k → 1 ≤ cnt k n st
  | 0, _, _, h => by omega
  | k + 1, n, st, h => by
    unfold cnt
    split
    · exact Nat.le_refl _
    · have := cnt_pos k (n - 1) st (by omega)
      have h2 : 1 ≤ n * cnt k (n - 1) st := Nat.mul_pos (by omega) this
      omega
theorem ix0_names {ns : List (List Nat)} (h : 1 ≤ ns.length) : oIx' (tS ns) (.int 0) = some (sD ns[0]) := by
  have := ix_tup (xs := ns.map sD) (i := 0) (by rw [List.length_map]; omega)
  rw [show ((0 : Nat) : Int) = 0 from rfl] at this
  rw [this]; simp
end DL
namespace V
open PySem L2 DL
end V

namespace DL
open PySem L2 PySem.W PyProof.Rows
theorem mul2_tup {d : D} : oMul' (.tup [d]) (.int 2) = some (.tup [d, d]) := rfl
theorem range8 : oRange1 [.int 8] = some ((List.range 8).map fun i => .int (i : Int)) := oRange1_nat (n := 8) (by decide)
end DL
namespace V
open PySem L2 DL
section
variable {r : RuleV} {v0 v1 v2 v3 v7 v8 v9 v10 v11 v12 v13 v14 : Option D} {s : Ds}
theorem lc_rp (hr : GoodRule r) : mLc (mItems (mVar 6)) (ogName 8) mYes (mCB oRepr (mCons (mVar 8) mNil)) [8] [v0, v1, v2, v3, some r.tup, some r.obj, some (.lst ((courses 5 r.ns r.st).map coD)), v7, v8, v9, v10, v11, v12, v13, v14] s = .ok (.lst ((courses 5 r.ns r.st).map fun c => .str (mkS (sc (coD c))))) s := by
  have c2 := courses_le (k := 5) (st := r.st) (nodup_of_asc hr.nm.asc) hr.nm.le
  exact mLc_of (courses 5 r.ns r.st) coD _ (by simp) (fun c hc => ⟨_, rfl, by
    obtain ⟨k1, k2, k3⟩ := courses_words hr hc
    have := coD_wt k2 k3
    simp [wipeD, coD_own, oRepr_pl (coD_ts k2).pl (by omega) (by omega)]⟩) (sz (by omega))
theorem lc_in (hr : GoodRule r) {v4 v5 v6 : Option D} : mLc (mItems (mVar 3)) (ogName 11) mYes (mTup (mCons (mC (.str "in")) (mCons (mVar 11) mNil))) [11] [v0, v1, v2, some (tS r.ns), v4, v5, v6, v7, v8, v9, v10, v11, v12, v13, v14] s = .ok (.lst (r.ns.map fun l => stD (true, l))) s := by
  have := hr.nm.le
  exact mLc_of r.ns sD _ (by simp) (fun c hc => ⟨_, rfl, by simp [wipeD]; rfl⟩) (sz (by omega))
end
end V

namespace DL
open PySem L2
theorem intsD_map : ∀ ns : List Int, intsD (ns.map D.int) = some ns
  | [] => rfl
  | n :: r => by
    show (intsD (r.map D.int)).map (n :: ·) = _
    rw [intsD_map r]; rfl
theorem begun_eq {ns : List Int} (h : ns.length ≤ 63) {s : Ds} (hs : s.dr = none) : c_law_begun [.frl (ns.map D.int)] s = .anyA fun a => .ok (.ref a) { s with dr := some (a, 0) } := by
  unfold c_law_begun
  rw [hs]
  dsimp only
  rw [intsD_map]
  dsimp only
  rw [if_pos h]
theorem min2_nat {n m : Nat} : oMin2 [.int (n : Int), .int (m : Int)] = some (.int ((min n m : Nat) : Int)) := by
  show some (D.int (if (m : Int) < (n : Int) then (m : Int) else (n : Int))) = _
  congr 2
  split <;> omega
end DL
namespace V
open PySem L2 DL
end V

namespace DL
open PySem L2 PySem.W PyProof.Rows
/-! ### plain things whose numbers are bounded -/
def Pn (b : Nat) : Nat → D → Prop
  | _, .non => True
  | _, .bl _ => True
  | _, .int i => i.natAbs ≤ b
  | _, .str x => ∀ c ∈ x.cps.toList, isTx c
  | _, .dct kvs => kvs = []
  | k + 1, .tup ds => ∀ d ∈ ds, Pn b k d
  | k + 1, .lst ds => ∀ d ∈ ds, Pn b k d
  | _, _ => False
theorem Pn.mono : ∀ {b b' k n : Nat} {d : D}, b ≤ b' → k ≤ n → Pn b k d → Pn b' n d := by
  intro b b' k
  induction k with
  | zero =>
    intro n d hb _ h
    cases n <;> cases d <;> first | exact h | (unfold Pn at h; exact h.elim) | exact Nat.le_trans h hb
  | succ k ih =>
    intro n d hb hn h
    obtain ⟨m, rfl⟩ : ∃ m, n = m + 1 := ⟨n - 1, by omega⟩
    cases d <;> first | exact h | (unfold Pn at h; exact h.elim) | exact Nat.le_trans h hb | skip
    · exact fun x m => ih hb (by omega) (h x m)
    · exact fun x m => ih hb (by omega) (h x m)
theorem Pn.pl : ∀ {b k : Nat} {d : D}, b < 10 ^ 40 → Pn b k d → Pl k d := by
  intro b k
  induction k with
  | zero =>
    intro d hb h
    cases d <;> first | exact h | (unfold Pn at h; exact h.elim) | exact Nat.lt_of_le_of_lt h hb
  | succ k ih =>
    intro d hb h
    cases d <;> first | exact h | (unfold Pn at h; exact h.elim) | exact Nat.lt_of_le_of_lt h hb | skip
    · exact fun x m => ih hb (h x m)
    · exact fun x m => ih hb (h x m)
def pnB (b : Nat) : Nat → D → Bool
  | _, .non => true
  | _, .bl _ => true
  | _, .int i => decide (i.natAbs ≤ b)
  | _, .str x => x.cps.toList.all txB
  | _, .dct kvs => kvs.isEmpty
  | k + 1, .tup ds => ds.all (pnB b k)
  | k + 1, .lst ds => ds.all (pnB b k)
  | _, _ => false
theorem pnB_ok {b : Nat} : ∀ (k : Nat) (d : D), pnB b k d = true → Pn b k d := by
  intro k
  induction k with
  | zero =>
    intro d h
    cases d <;> first | trivial | (cases h; done) | skip
    · rename_i i; exact of_decide_eq_true (p := i.natAbs ≤ b) h
    · exact fun c hc => txB_iff.mp (List.all_eq_true.mp h c hc)
    · exact List.isEmpty_iff.mp h
  | succ k ih =>
    intro d h
    cases d <;> first | trivial | (cases h; done) | skip
    · rename_i i; exact of_decide_eq_true (p := i.natAbs ≤ b) h
    · exact fun c hc => txB_iff.mp (List.all_eq_true.mp h c hc)
    · exact fun x hx => ih x (List.all_eq_true.mp h x hx)
    · exact fun x hx => ih x (List.all_eq_true.mp h x hx)
    · exact List.isEmpty_iff.mp h
theorem oddN_all : ∀ d ∈ odd1 ++ odd2, pnB (10 ^ 30) 2 d = true ∧ wt d ≤ 60 := by
  have : ((odd1 ++ odd2).all fun d => pnB (10 ^ 30) 2 d && decide (wt d ≤ 60)) = true := by decide +kernel
  intro d hd
  have := List.all_eq_true.mp this d hd
  rw [Bool.and_eq_true, decide_eq_true_eq] at this
  exact this
theorem Ts.pn {b : Nat} : ∀ {k : Nat} {d : D}, Ts k d → Pn b k d := by
  intro k
  induction k with
  | zero => intro d h; cases d <;> first | exact h | (unfold Ts at h; exact h.elim)
  | succ k ih => intro d h; cases d <;> first | exact h | (unfold Ts at h; exact h.elim) | exact fun x m => ih (h x m)
end DL
namespace V
open PySem L2 DL
theorem oddN_post {a : Addr} {n : Int} {ob : List (Addr × D)} {b : Nat} {Q : D → Ds → Prop} {E : Str → List (Str × D) → Ds → Prop} (hb : 10 ^ 30 ≤ b) (hn : n + 1 ≤ 10 ^ 15)
    (h : ∀ d, Pn b 2 d → wt d ≤ 60 → Q d ⟨some (a, n + 1), ob⟩) : (c_law_odd [.ref a] ⟨some (a, n), ob⟩).post Q E := by
  simp [c_law_odd, m_law_odd, pow30]
  rw [add_lst (by simp)]
  simp
  refine next_post (by omega) (by omega) (by omega) fun r h0 h1 => ?_
  obtain ⟨d, e, hd⟩ := ix_all (xs := odd1 ++ odd2) (fun d => Pn b 2 d ∧ wt d ≤ 60) h0 (by simpa [odd1, odd2] using h1) (fun d hd => ⟨(pnB_ok 2 d (oddN_all d hd).1).mono hb (Nat.le_refl _), (oddN_all d hd).2⟩)
  have e' := e
  simp only [odd1, odd2, List.cons_append, List.nil_append] at e'
  simp at e'
  rw [e']
  simp
  exact h d hd.1 hd.2
theorem bentN_str {self : FF} {a : Addr} {n : Int} {ob : List (Addr × D)} {x : Str} {b : Nat} {Q : D → Ds → Prop} {E : Str → List (Str × D) → Ds → Prop} (hb : 10 ^ 30 ≤ b) (hx : ∀ c ∈ x.cps.toList, isTx c) (hl : x.length ≤ 400) (hn : n + 4 ≤ 10 ^ 15)
    (h : ∀ d j, 0 ≤ j → j ≤ 4 → Pn b 2 d → wt d ≤ 2 * wt (.str x) + 70 → Q d ⟨some (a, n + j), ob⟩) : (callF 2 4 (m_law_bent self) [.ref a, .str x] ⟨some (a, n), ob⟩).post Q E := by
  have hP : ∀ y : Str, (∀ c ∈ y.cps.toList, isTx c) → y.length ≤ 2 * x.length + 10 → Pn b 2 (.str y) ∧ wt (.str y) ≤ 2 * wt (.str x) + 70 := fun y h1 h2 => ⟨h1, by show y.length + 2 ≤ 2 * (x.length + 2) + 70; omega⟩
  have i1 : isT "int" (.str x) = false := rfl
  have i2 : isT "tuple" (.str x) = false := rfl
  simp [m_law_bent, isi_str]
  refine next_post (by omega) (by omega) (by omega) fun r h0 h1 => ?_
  simp
  by_cases hr : r = 0
  · obtain ⟨y1, e1, t1, l1⟩ := cut_str (x := x) (by omega) (some 1) none
    obtain ⟨y2, e2, t2, l2⟩ := mul2_str (x := x) (by omega)
    have b1 : (("b" : Str)).length = 1 := by decide +kernel
    have b2 : (("A" : Str)).length = 1 := by decide +kernel
    have b3 : ((" " : Str)).length = 1 := by decide +kernel
    have b4 : (("1" : Str)).length = 1 := by decide +kernel
    simp [hr, add_str (x := x) (y := "b") (by omega), add_str (x := x) (y := "A") (by omega), add_str (x := x) (y := " ") (by omega), add_str (x := x) (y := "1") (by omega), e1, e2]
    refine next_post (by omega) (by omega) (by omega) fun r2 h2 h3 => ?_
    obtain ⟨d, e, hd⟩ := ix_all (xs := [.str (x ++ "b"), .str y1, .str (x ++ "A"), .str (x ++ " "), .str y2, .str (x ++ "1")]) (fun d => Pn b 2 d ∧ wt d ≤ 2 * wt (.str x) + 70) h2 (by simpa using h3) (by
      intro d hd
      simp only [List.mem_cons, List.not_mem_nil, or_false] at hd
      rcases hd with rfl | rfl | rfl | rfl | rfl | rfl
      · exact hP _ (tx_app hx (lit_tx (by decide +kernel))) (by rw [len_app]; omega)
      · exact hP _ (fun c hc => hx c (t1 c hc)) (by omega)
      · exact hP _ (tx_app hx (lit_tx (by decide +kernel))) (by rw [len_app]; omega)
      · exact hP _ (tx_app hx (lit_tx (by decide +kernel))) (by rw [len_app]; omega)
      · exact hP _ (fun c hc => hx c (t2 c hc)) (by omega)
      · exact hP _ (tx_app hx (lit_tx (by decide +kernel))) (by rw [len_app]; omega))
    rw [e]
    simp
    have := h d 2 (by omega) (by omega) hd.1 hd.2
    rw [show n + 1 + 1 = n + 2 by omega]
    exact this
  · simp [hr, isi_str, i1, i2]
    refine oddN_post hb (by omega) fun d h2 h3 => ?_
    have := h d 2 (by omega) (by omega) h2 (by omega)
    rw [show n + 1 + 1 = n + 2 by omega]
    exact this
theorem bentN_tup {self : FF} {a : Addr} {n : Int} {ob : List (Addr × D)} {k J b : Nat} {ds : List D} {Q : D → Ds → Prop} {E : Str → List (Str × D) → Ds → Prop} (hb : 10 ^ 30 ≤ b) (hk : ∀ d ∈ ds, Pn b k d) (hl : wts ds ≤ 400) (hn : n + J + 4 ≤ 10 ^ 15)
    (hs : ∀ x ∈ ds, ∀ (m : Int) (Q' : D → Ds → Prop) (E' : Str → List (Str × D) → Ds → Prop), m + J ≤ 10 ^ 15 → (∀ d j, 0 ≤ j → j ≤ (J : Int) → Pn (b + 10) (k + 3) d → wt d ≤ 2 * wt x + 70 → Q' d ⟨some (a, m + j), ob⟩) → (self [.ref a, x] ⟨some (a, m), ob⟩).post Q' E')
    (h : ∀ d j, 0 ≤ j → j ≤ (J : Int) + 4 → Pn (b + 10) (k + 4) d → wt d ≤ 2 * wt (.tup ds) + 70 → Q d ⟨some (a, n + j), ob⟩) : (callF 2 4 (m_law_bent self) [.ref a, .tup ds] ⟨some (a, n), ob⟩).post Q E := by
  have i1 : isT "int" (.tup ds) = false := rfl
  have i2 : isT "str" (.tup ds) = false := rfl
  have hwt : wt (.tup ds) = wts ds + 3 := rfl
  have hlen := wts_len ds
  have hodd : ∀ d, Pn b 2 d → wt d ≤ 60 → ∀ j, 0 ≤ j → j ≤ (J : Int) + 4 → Q d ⟨some (a, n + j), ob⟩ := fun d h1 h2 j h3 h4 => h d j h3 h4 (h1.mono (by omega) (by omega)) (by omega)
  have hP : ∀ ys : List D, (∀ y ∈ ys, Pn (b + 10) (k + 3) y) → Pn (b + 10) (k + 4) (.tup ys) := fun ys hy => hy
  simp [m_law_bent, isi_tup, i1, i2, oEq_nil]
  by_cases he : ds = []
  · subst he
    simp
    refine oddN_post hb (by omega) fun d h2 h3 => ?_
    exact hodd d h2 h3 1 (by omega) (by omega)
  have hem : ds.isEmpty = false := by cases ds with | nil => exact absurd rfl he | cons _ _ => rfl
  have hpos : 1 ≤ ds.length := by cases ds with | nil => exact absurd rfl he | cons _ _ => simp
  simp [he, hem]
  refine next_post (by omega) (by omega) (by omega) fun r h0 h1 => ?_
  simp
  by_cases hr : r = 0
  · simp [hr]
    refine oddN_post hb (by omega) fun d h2 h3 => ?_
    rw [show n + 1 + 1 = n + 2 by omega]
    exact hodd d h2 h3 2 (by omega) (by omega)
  simp [hr]
  refine next_post (by omega) (by omega) (by omega) fun r1 h2 h3 => ?_
  simp
  refine next_post (by omega) (by omega) (by omega) fun r2 h4 h5 => ?_
  obtain ⟨i, rfl⟩ := Int.eq_ofNat_of_zero_le h2
  have hi : i < ds.length := by omega
  simp
  have e3 : n + 1 + 1 + 1 = n + 3 := by omega
  rw [e3]
  obtain ⟨ya, ea, ma, wa, la⟩ := cut_tup ds none (some (i : Int))
  obtain ⟨yb, eb, mb, wb, lb⟩ := cut_tup ds (some ((i : Int) + 1)) none
  obtain ⟨yc, ec, mc, wc, lc⟩ := cut_tup ds (some (i : Int)) (some ((i : Int) + 1))
  obtain ⟨yd, ed, md, wd, ld⟩ := cut_tup ds (some (i : Int)) none
  have pk : ∀ d ∈ ds, Pn (b + 10) (k + 3) d := fun d m => (hk d m).mono (by omega) (by omega)
  by_cases c0 : r2 = 0
  · simp [c0, ea, eb]
    rw [add_tup (by omega)]
    simp
    refine h _ 3 (by omega) (by omega) (hP _ fun y hy => ?_) ?_
    · exact (List.mem_append.mp hy).elim (fun m => pk y (ma y m)) (fun m => pk y (mb y m))
    · show wts (ya ++ yb) + 3 ≤ _
      rw [wts_append]; omega
  by_cases c1 : r2 = 1
  · simp [c1, ec]
    rw [add_tup (by omega)]
    simp
    refine h _ 3 (by omega) (by omega) (hP _ fun y hy => ?_) ?_
    · exact (List.mem_append.mp hy).elim (fun m => pk y m) (fun m => pk y (mc y m))
    · show wts (ds ++ yc) + 3 ≤ _
      rw [wts_append]; omega
  by_cases c2 : r2 = 2
  · simp [c2]
    refine h _ 3 (by omega) (by omega) (show Pn (b + 10) (k + 3 + 1) (.lst ds) from pk) ?_
    show wts ds + 2 ≤ _
    omega
  by_cases c3 : r2 = 3
  · simp [c3, ea]
    refine oddN_post hb (by omega) fun d h6 h7 => ?_
    simp [ed]
    rw [add_tup (by simp; omega)]
    simp
    rw [add_tup (by simp; omega)]
    simp
    rw [show n + 3 + 1 = n + 4 by omega]
    refine h _ 4 (by omega) (by omega) (hP _ fun y hy => ?_) ?_
    · rcases List.mem_append.mp hy with m | m
      · exact pk y (ma y m)
      · rcases List.mem_cons.mp m with rfl | m
        · exact h6.mono (by omega) (by omega)
        · exact pk y (md y m)
    · show wts (ya ++ d :: yd) + 3 ≤ _
      rw [wts_append, wts]; omega
  by_cases c4 : r2 = 4
  · simp [c4]
    refine h _ 3 (by omega) (by omega) (hP _ fun y hy => pk y (List.mem_reverse.mp hy)) ?_
    show wts ds.reverse + 3 ≤ _
    rw [wts_rev]; omega
  simp [c0, c1, c2, c3, c4]
  have ex : oIx' (.tup ds) (.int (i : Int)) = some ds[i] := ix_tup hi
  have et : oCut (.tup ds) none (some (i : Int)) = some (.tup (ds.take i)) := cut_tup_to ds i
  have eu : oCut (.tup ds) (some ((i : Int) + 1)) none = some (.tup (ds.drop (i + 1))) := by
    have := cut_tup_from ds (i + 1)
    rw [show ((i + 1 : Nat) : Int) = (i : Int) + 1 by omega] at this
    exact this
  simp [et, ex]
  refine hs ds[i] (List.getElem_mem hi) (n + 3) _ _ (by omega) fun d j j0 j1 h6 h7 => ?_
  simp [eu]
  rw [add_tup (by simp; omega)]
  simp
  rw [add_tup (by simp; omega)]
  simp
  rw [show n + 3 + j = n + (3 + j) by omega]
  refine h _ (3 + j) (by omega) (by omega) (hP _ fun y hy => ?_) ?_
  · rcases List.mem_append.mp hy with m | m
    · exact pk y (List.mem_of_mem_take m)
    · rcases List.mem_cons.mp m with rfl | m
      · exact h6
      · exact pk y (List.mem_of_mem_drop m)
  · show wts (ds.take i ++ d :: ds.drop (i + 1)) + 3 ≤ _
    have w1 := wts_cut ds i
    have w2 : wts (ds.drop i) = wt ds[i] + 2 + wts (ds.drop (i + 1)) := by rw [← List.getElem_cons_drop hi, wts]
    rw [wts_append, wts]; omega
theorem bentN_int {self : FF} {a : Addr} {n : Int} {ob : List (Addr × D)} {i : Int} {b : Nat} {Q : D → Ds → Prop} {E : Str → List (Str × D) → Ds → Prop} (hb : 10 ^ 30 ≤ b) (hi : i.natAbs ≤ b) (hn : n + 4 ≤ 10 ^ 15)
    (h : ∀ d j, 0 ≤ j → j ≤ 4 → Pn (b + 10) 2 d → wt d ≤ 60 → Q d ⟨some (a, n + j), ob⟩) : (callF 2 4 (m_law_bent self) [.ref a, .int i] ⟨some (a, n), ob⟩).post Q E := by
  have i1 : isT "str" (.int i) = false := rfl
  have i2 : isT "tuple" (.int i) = false := rfl
  simp [m_law_bent, isi_int, i1]
  refine next_post (by omega) (by omega) (by omega) fun r h0 h1 => ?_
  simp
  by_cases hr : r = 0
  · simp [hr]
    refine next_post (by omega) (by omega) (by omega) fun r2 h2 h3 => ?_
    obtain ⟨d, e, y, rfl, hy⟩ := ix_all (xs := [.int 1, .int (-1), .int 2, .int (-2), .int 10, .int (-10)]) (fun d => ∃ y : Int, d = .int y ∧ y.natAbs ≤ 10) h2 (by simpa using h3) (by
      intro d hd
      simp only [List.mem_cons, List.not_mem_nil, or_false] at hd
      rcases hd with rfl | rfl | rfl | rfl | rfl | rfl <;> exact ⟨_, rfl, by decide⟩)
    rw [e]
    simp
    rw [show n + 1 + 1 = n + 2 by omega]
    exact h _ 2 (by omega) (by omega) (show (i + y).natAbs ≤ b + 10 by omega) (show 50 ≤ 60 by decide)
  · simp [hr, isi_int, i2]
    refine oddN_post hb (by omega) fun d h2 h3 => ?_
    rw [show n + 1 + 1 = n + 2 by omega]
    exact h d 2 (by omega) (by omega) (h2.mono (by omega) (by omega)) h3
/-- what is neither text nor number nor tuple -/
theorem bentN_else {self : FF} {a : Addr} {n : Int} {ob : List (Addr × D)} {d : D} {b : Nat} {Q : D → Ds → Prop} {E : Str → List (Str × D) → Ds → Prop} (hb : 10 ^ 30 ≤ b) (ht : (tyD d).isSome = true) (ho : noOwn d = some d) (h1 : isT "str" d = false) (h2 : isT "tuple" d = false) (h3 : isT "int" d = false ∨ isT "bool" d = true) (hn : n + 4 ≤ 10 ^ 15)
    (h : ∀ d', Pn b 2 d' → wt d' ≤ 60 → Q d' ⟨some (a, n + 1), ob⟩) : (callF 2 4 (m_law_bent self) [.ref a, d] ⟨some (a, n), ob⟩).post Q E := by
  rcases h3 with h3 | h3
  · simp [m_law_bent, ho, isi_eq ht, h1, h2, h3]
    exact oddN_post hb (by omega) fun d h2 h3 => h d h2 h3
  · cases h4 : isT "int" d <;> simp [m_law_bent, ho, isi_eq ht, h1, h2, h3, h4] <;> exact oddN_post hb (by omega) fun d h2 h3 => h d h2 h3
theorem bentN_post {a : Addr} {ob : List (Addr × D)} {b : Nat} (hb : 10 ^ 30 ≤ b) : ∀ (k F : Nat) (d : D) (n : Int) (Q : D → Ds → Prop) (E : Str → List (Str × D) → Ds → Prop), k + 1 ≤ F → Pn b k d → wt d ≤ 400 → n + 4 * (k + 1) ≤ 10 ^ 15 →
    (∀ d' j, 0 ≤ j → j ≤ ((4 * (k + 1) : Nat) : Int) → Pn (b + 10) (k + 3) d' → wt d' ≤ 2 * wt d + 70 → Q d' ⟨some (a, n + j), ob⟩) → (c_law_bent F [.ref a, d] ⟨some (a, n), ob⟩).post Q E := by
  intro k
  induction k with
  | zero =>
    intro F d n Q E hF hd hw hn h
    obtain ⟨G, rfl⟩ : ∃ G, F = G + 1 := ⟨F - 1, by omega⟩
    have hel : ∀ d', Pn b 2 d' → wt d' ≤ 60 → Q d' ⟨some (a, n + 1), ob⟩ := fun d' h1 h2 => h d' 1 (by omega) (by omega) (h1.mono (by omega) (by omega)) (by omega)
    cases d <;> first | (unfold Pn at hd; exact hd.elim) | skip
    · exact bentN_else (self := c_law_bent G) hb rfl rfl rfl rfl (.inl rfl) (by omega) hel
    · exact bentN_else (self := c_law_bent G) hb rfl rfl rfl rfl (.inr rfl) (by omega) hel
    · exact bentN_int (self := c_law_bent G) hb hd (by omega) fun d' j h0 h1 h2 h3 => h d' j h0 (by omega) (h2.mono (by omega) (by omega)) (by omega)
    · rename_i x
      have hx : x.length + 2 ≤ 400 := hw
      exact bentN_str (self := c_law_bent G) hb hd (by omega) (by omega) fun d' j h0 h1 h2 h3 => h d' j h0 (by omega) (h2.mono (by omega) (by omega)) h3
    · exact bentN_else (self := c_law_bent G) hb rfl rfl rfl rfl (.inl rfl) (by omega) hel
  | succ k ih =>
    intro F d n Q E hF hd hw hn h
    obtain ⟨G, rfl⟩ : ∃ G, F = G + 1 := ⟨F - 1, by omega⟩
    have hel : ∀ d', Pn b 2 d' → wt d' ≤ 60 → Q d' ⟨some (a, n + 1), ob⟩ := fun d' h1 h2 => h d' 1 (by omega) (by omega) (h1.mono (by omega) (by omega)) (by omega)
    cases d <;> first | (unfold Pn at hd; exact hd.elim) | skip
    · exact bentN_else (self := c_law_bent G) hb rfl rfl rfl rfl (.inl rfl) (by omega) hel
    · exact bentN_else (self := c_law_bent G) hb rfl rfl rfl rfl (.inr rfl) (by omega) hel
    · exact bentN_int (self := c_law_bent G) hb hd (by omega) fun d' j h0 h1 h2 h3 => h d' j h0 (by omega) (h2.mono (by omega) (by omega)) (by omega)
    · rename_i x
      have hx : x.length + 2 ≤ 400 := hw
      exact bentN_str (self := c_law_bent G) hb hd (by omega) (by omega) fun d' j h0 h1 h2 h3 => h d' j h0 (by omega) (h2.mono (by omega) (by omega)) h3
    · rename_i ds
      have hds : wts ds + 3 ≤ 400 := hw
      have hd' : ∀ x ∈ ds, Pn b k x := hd
      refine bentN_tup (self := c_law_bent G) (k := k) (J := 4 * (k + 1)) hb hd' (by omega) (by omega) (fun x hx m Q' E' hm h' => ?_) fun d' j h0 h1 h2 h3 => h d' j h0 (by omega) h2 h3
      have := wts_mem hx
      exact ih G x m Q' E' (by omega) (hd' x hx) (by omega) (by omega) h'
    · exact bentN_else (self := c_law_bent G) hb rfl rfl rfl rfl (.inl rfl) (by omega) hel
    · exact bentN_else (self := c_law_bent G) hb rfl rfl rfl rfl (.inl rfl) (by omega) hel
end V

namespace DL
open PySem L2 PySem.W PyProof.Rows
/-! ### loops -/
theorem forF_inv {og : OG} {mb : FX} {s : Ds} (Inv : Env → Prop) : ∀ (ds : List D), (∀ d ∈ ds, ∀ ρ, Inv ρ → ∃ ρ2 ρ', og d ρ = some ρ2 ∧ mb ρ2 s = .ok (.nx ρ') s ∧ Inv ρ') → ∀ ρ, Inv ρ → ∃ ρ', forF og mb ds ρ s = .ok (.nx ρ') s ∧ Inv ρ'
  | [], _, ρ, hi => ⟨ρ, rfl, hi⟩
  | d :: r, h, ρ, hi => by
    obtain ⟨ρ2, ρ1, h1, h2, h3⟩ := h d (List.mem_cons_self ..) ρ hi
    obtain ⟨ρ', h4, h5⟩ := forF_inv Inv r (fun x m => h x (List.mem_cons_of_mem _ m)) ρ1 h3
    refine ⟨ρ', ?_, h5⟩
    rw [forF_cons, h1, optO_some, Out.bind_ok, h2, Out.bind_ok, forK_nx, h4]
theorem forF_post {og : OG} {mb : FX} {E : Str → List (Str × D) → Ds → Prop} {Q : Fl → Ds → Prop} (Inv : Nat → Env → Ds → Prop) : ∀ (ds : List D) (i : Nat), (∀ d ∈ ds, ∀ j ρ s, i ≤ j → j < i + ds.length → Inv j ρ s → ∃ ρ2, og d ρ = some ρ2 ∧ (mb ρ2 s).post (fun fl s' => ∃ ρ', fl = .nx ρ' ∧ Inv (j + 1) ρ' s') E) →
    (∀ ρ s, Inv (i + ds.length) ρ s → Q (.nx ρ) s) → ∀ ρ s, Inv i ρ s → (forF og mb ds ρ s).post Q E
  | [], i, _, hq, ρ, s, hi => hq ρ s hi
  | d :: r, i, h, hq, ρ, s, hi => by
    obtain ⟨ρ2, h1, h2⟩ := h d (List.mem_cons_self ..) i ρ s (Nat.le_refl _) (by simp) hi
    rw [forF_cons, h1, optO_some, Out.bind_ok, post_bind']
    refine Out.post_mono (fun fl s' ⟨ρ', e, h3⟩ => ?_) (fun _ _ _ z => z) _ h2
    subst e
    rw [forK_nx]
    exact forF_post Inv r (i + 1) (fun x m j ρ s hj hl => h x (List.mem_cons_of_mem _ m) j ρ s (by omega) (by rw [List.length_cons]; omega)) (fun ρ s z => hq ρ s (by rw [List.length_cons]; rw [show i + (r.length + 1) = i + 1 + r.length by omega]; exact z)) ρ' s' h3
/-! ### names, told of any thing -/
def isW : D → Bool
  | .str x => wordB x.cps.toList
  | _ => false
theorem words_of : ∀ {ds : List D}, ds.all isW = true → ∃ ns : List (List Nat), ds = ns.map sD ∧ ∀ l ∈ ns, IsWord l
  | [], _ => ⟨[], rfl, fun _ h => nomatch h⟩
  | d :: r, h => by
    rw [List.all_cons, Bool.and_eq_true] at h
    obtain ⟨ns, h1, h2⟩ := words_of h.2
    have h0 := h.1
    cases d <;> first | (cases h0; done) | skip
    rename_i x
    refine ⟨x.cps.toList :: ns, by rw [h1]; rfl, fun l hl => ?_⟩
    rcases List.mem_cons.mp hl with rfl | hl
    · exact wordB_iff.mp h0
    · exact h2 l hl
theorem all_isW {ns : List (List Nat)} : (ns.map sD).all isW = ns.all wordB := by rw [List.all_map]; rfl
def codes (ds : List D) : List (List Nat) := ds.map codesOf
@[simp] theorem codes_map (ns : List (List Nat)) : codes (ns.map sD) = ns := by
  unfold codes
  rw [List.map_map]
  conv => rhs; rw [← List.map_id ns]
  exact List.map_congr_left fun _ _ => rfl
def namesB : D → Bool
  | .tup ds => decide (2 ≤ ds.length) && (decide (ds.length ≤ 4) && (ds.all isW && risingB (codes ds)))
  | _ => false
theorem eq_nil_lst {xs : List D} : oEq' (.lst xs) (.lst []) = some (.bl xs.isEmpty) := by
  show some (D.bl (xs.isEmpty != false)) = _
  cases xs <;> rfl
theorem isEmpty_fm {β γ : Type} (l : List β) (p : β → Bool) (f : β → γ) : ((l.filter fun x => !p x).map f).isEmpty = l.all p := by
  induction l with
  | nil => rfl
  | cons x r ih =>
    cases q : p x
    · rw [List.filter_cons_of_pos (by simp [q])]; simp [q]
    · rw [List.filter_cons_of_neg (by simp [q]), ih]; simp [q]
theorem zip_gen {β : Type} (l : List β) (e : β → D) : oZip [.tup (l.map e), .tup ((l.drop 1).map e)] = some ((l.zip (l.drop 1)).map fun p => .tpw [e p.1, e p.2]) := by
  show some (zipD (l.map e) ((l.drop 1).map e)) = _
  unfold zipD
  rw [List.zipWith_map]
  congr 1
  rw [List.zip, List.map_zipWith]
theorem wt_str {x : Str} : wt (.str x) = x.length + 2 := rfl
theorem wts_each {ds : List D} {m : Nat} (h : wts ds ≤ m) : ∀ d ∈ ds, wt d ≤ m := fun d hd => by have := wts_mem hd; omega
theorem tfF {b : Bool} (h : b = true) (h2 : b = false) : False := by rw [h] at h2; cases h2
theorem isT_str_eq {d : D} (h : isT "str" d = true) : ∃ x, d = .str x := by
  cases d <;> first | exact ⟨_, rfl⟩ | exact (tfF h rfl).elim
theorem isT_tup_eq {k : Nat} {d : D} (hd : Pl k d) (h : isT "tuple" d = true) : ∃ ds, d = .tup ds := by
  cases d <;> first | exact ⟨_, rfl⟩ | exact (tfF h rfl).elim | (exfalso; cases k <;> exact hd)
theorem namesB_not {d : D} (h : isT "tuple" d = false) : namesB d = false := by
  cases d <;> first | rfl | exact (tfF rfl h).elim
end DL
namespace V
open PySem L2 DL
theorem is_word_any {k : Nat} {d : D} {s : Ds} (hd : Pl k d) (hw : wt d ≤ 1000) : c_is_word [d] s = .ok (.bl (isW d)) s := by
  cases q : isT "str" d with
  | true =>
    obtain ⟨x, rfl⟩ := isT_str_eq q
    have := is_word_str (l := x.cps.toList) (s := s) (by have : x.length + 2 ≤ 1000 := hw; simpa [Str.length] using (show x.length ≤ 1000 by omega))
    exact this
  | false =>
    have : isW d = false := by cases d <;> first | rfl | exact (tfF rfl q).elim
    rw [this]
    simp [c_is_word, m_is_word, own_pl hd, isi_pl hd, q]
theorem are_rising_gen {β : Type} {l : List β} {e : β → D} {lt : β → β → Bool} {s : Ds} (h : ∀ a ∈ l, ∀ b ∈ l, noOwn (e a) = some (e a) ∧ oLt' (e a) (e b) = some (.bl (lt a b))) (hl : l.length ≤ 1000) : c_are_rising [.tup (l.map e)] s = .ok (.bl ((l.zip (l.drop 1)).all fun p => lt p.1 p.2)) s := by
  simp [c_are_rising, m_are_rising]
  have e1 : oCut (.tup (l.map e)) (some 1) none = some (.tup ((l.drop 1).map e)) := by
    have := cut_tup_from (l.map e) 1
    rw [List.map_drop]
    exact this
  rw [mLc_of (l.zip (l.drop 1)) (fun p => .tpw [e p.1, e p.2]) (fun p => .bl (lt p.1 p.2)) (by simp only [mIt_r, mCons_r, mVar_r, mSl_r, mPart_r, mC_r, mNoPart_r, mNil_r, partK_r, List.getElem?_cons_zero, noOwn_tup, optO_some, Out.bind_ok, e1, zip_gen]) (fun p hp => ⟨_, rfl, by
    have m1 := (List.of_mem_zip hp).1
    have m2 := List.mem_of_mem_drop (List.of_mem_zip hp).2
    simp [wipeD, (h _ m1 _ m2).1, (h _ m2 _ m1).1, (h _ m1 _ m2).2]⟩) (sz (by simp [List.length_zip]; omega))]
  simp [oAll_map]
theorem need_names_any {k : Nat} {d : D} {s : Ds} (hd : Pl k d) (hw : wt d ≤ 1000) : c_need_names [d] s = if namesB d = true then .ok d s else .exc "BadNames" [("value", d)] s := by
  cases q : isT "tuple" d with
  | false => simp [namesB_not q, c_need_names, m_need_names, own_pl hd, isi_pl hd, q]
  | true =>
    obtain ⟨ds, rfl⟩ := isT_tup_eq hd q
    obtain ⟨j, rfl, hds⟩ := pl_tup hd
    have hws : wts ds + 3 ≤ 1000 := hw
    have hlen := wts_len ds
    by_cases h1 : 2 ≤ ds.length
    · by_cases h2 : ds.length ≤ 4
      · have h1' : (2 : Int) ≤ ds.length := by omega
        have h2' : (ds.length : Int) ≤ 4 := by omega
        have e1 : ∀ v : Option D, mLc (mItems (mVar 0)) (ogName 1) mYes (mCall c_is_word (mCons (mVar 1) mNil)) [1] [some (.tup ds), v] s = .ok (.lst (ds.map fun d => .bl (isW d))) s := fun v =>
          mLc_map (fun d => .bl (isW d)) (by simp) (fun d hm => ⟨_, rfl, by simp [wipeD, own_pl (hds d hm), is_word_any (s := s) (hds d hm) (wts_each (m := 1000) (by omega) d hm)]⟩) (sz (by omega))
        by_cases h3 : ds.all isW = true
        · obtain ⟨ns, rfl, hns⟩ := words_of h3
          rw [List.length_map] at h1 h2 h1' h2'
          simp [c_need_names, m_need_names, isi_tup, h1', h2', e1, oAll_map, h3, are_rising_strs (show ns.length ≤ 1000 by omega), namesB, h1, h2, -List.map_map]
          cases risingB ns <;> simp
        · rw [Bool.not_eq_true] at h3
          simp [c_need_names, m_need_names, isi_tup, h1', h2', e1, oAll_map, h3, namesB, h1, h2, -List.map_map]
      · have h2' : ¬ (ds.length : Int) ≤ 4 := by omega
        have h1' : (2 : Int) ≤ ds.length := by omega
        simp [c_need_names, m_need_names, isi_tup, namesB, h1, h2, h2', h1']
    · have h1' : ¬ (2 : Int) ≤ ds.length := by omega
      simp [c_need_names, m_need_names, isi_tup, namesB, h1, h1']
end V

namespace DL
open PySem L2 PySem.W PyProof.Rows
/-! ### repr of a pair of texts -/
theorem sc_str_gen (x : Str) : sc (.str x) = (reprText x).cps.toList := by
  show (PyData.shown (.str x)).cps.toList = _
  rw [PyData.shown_str]
theorem oRepr_two {x y : Str} (hx : ∀ c ∈ x.cps.toList, c < 127) (hy : ∀ c ∈ y.cps.toList, c < 127) (lx : x.length ≤ 100000) (ly : y.length ≤ 100000) :
    ∃ t : Str, oRepr [.tup [.str x, .str y]] = some (.str t) ∧ (D.str t).fit = true := by
  have l1 := StrLaws.reprText_len x fun c hc => Nat.lt_trans (hx c hc) (by decide)
  have l2 := StrLaws.reprText_len y fun c hc => Nat.lt_trans (hy c hc) (by decide)
  have e : sc (.tup [.str x, .str y]) = 40 :: (((reprText x).cps.toList ++ 44 :: 32 :: (reprText y).cps.toList) ++ [41]) := by
    rw [sc_tup, List.map_cons, List.map_cons, List.map_nil, sc_str_gen, sc_str_gen]; rfl
  refine ⟨mkS (sc (.tup [.str x, .str y])), ?_, ?_⟩
  · have h4 : (D.tup [.str x, .str y]).py.shown.length ≤ sizeLine := by
      have h5 : (D.tup [.str x, .str y]).py.shown.length = (sc (.tup [.str x, .str y])).length := rfl
      rw [h5, e, sizeLine_v]
      simp only [List.length_cons, List.length_append, List.length_nil, Array.length_toList]
      have a1 : (reprText x).cps.size = (reprText x).length := rfl
      have a2 : (reprText y).cps.size = (reprText y).length := rfl
      omega
    have hd : (D.tup [.str x, .str y]).py.depth ≤ 64 := by
      show max 0 (max 0 0) + 1 ≤ 64
      decide
    show (if (D.tup [.str x, .str y]).rp = true ∧ (D.tup [.str x, .str y]).py.depth ≤ 64 ∧ (D.tup [.str x, .str y]).py.shown.length ≤ sizeLine then some (D.str (D.tup [.str x, .str y]).py.shown) else none) = _
    rw [if_pos ⟨rfl, hd, h4⟩]; rfl
  · refine (fitK_str (k := 0) fun c hc => ?_).fit (by decide)
    rw [cps_mkS, e] at hc
    have : c < 127 := by
      rcases List.mem_cons.mp hc with rfl | hc
      · decide
      · rcases List.mem_append.mp hc with hc | hc
        · rcases List.mem_append.mp hc with hc | hc
          · exact reprText_small hx c hc
          · rcases List.mem_cons.mp hc with rfl | hc
            · decide
            · rcases List.mem_cons.mp hc with rfl | hc
              · decide
              · exact reprText_small hy c hc
        · rw [List.mem_singleton.mp hc]; decide
    exact Nat.lt_trans this (by decide)
theorem fit_sc {k : Nat} {d : D} (h : Pl k d) : (D.str (mkS (sc d))).fit = true := (fitK_str (k := 0) fun x hx => Nat.lt_trans (sc_ok k d h x hx) (by decide)).fit (by decide)
theorem repr_lst1 {k : Nat} {d : D} (hd : Pl k d) (hk : k ≤ 50) (hw : wt d ≤ 100000) : oRepr [.lst [d]] = some (.str (mkS (sc (.lst [d])))) ∧ (D.str (mkS (sc (.lst [d])))).fit = true := by
  have p1 : Pl (k + 1) (.lst [d]) := fun x hx => by rw [List.mem_singleton.mp hx]; exact hd
  refine ⟨oRepr_pl p1 (by omega) ?_, fit_sc p1⟩
  show wts [d] + 2 ≤ 1000000
  simp only [wts]; omega
theorem lit_small {x : Str} (h : (x.cps.toList.all fun c => decide (c < 127)) = true) : ∀ c ∈ x.cps.toList, c < 127 := fun c hc => of_decide_eq_true (List.all_eq_true.mp h c hc)
end DL
namespace V
open PySem L2 DL
section
variable {P : Addr} {q : Str} {mb : FE} {ρ : DL.Env} {s : Ds}
end
end V

namespace V
open PySem L2 DL
section
variable {k : Nat} {d : D} {v0 v1 v2 v3 v4 v5 v7 v8 v9 v10 v11 v12 : Option D} {s : Ds} {tb : Str → Addr}
end
end V

namespace DL
open PySem L2 PySem.W PyProof.Rows
/-! ### papers -/
def isN (ns : List (List Nat)) : D → Bool
  | .str x => decide (x.cps.toList ∈ ns)
  | _ => false
theorem among_of {ns : List (List Nat)} : ∀ {ds : List D}, ds.all (isN ns) = true → ∃ xs : List (List Nat), ds = xs.map sD ∧ ∀ l ∈ xs, l ∈ ns
  | [], _ => ⟨[], rfl, fun _ h => nomatch h⟩
  | d :: r, h => by
    rw [List.all_cons, Bool.and_eq_true] at h
    obtain ⟨xs, h1, h2⟩ := among_of h.2
    have h0 := h.1
    cases d <;> first | (cases h0; done) | skip
    rename_i x
    refine ⟨x.cps.toList :: xs, by rw [h1]; rfl, fun l hl => ?_⟩
    rcases List.mem_cons.mp hl with rfl | hl
    · exact of_decide_eq_true h0
    · exact h2 l hl
def paperB (ns : List (List Nat)) : D → Bool
  | .tup ds => !ds.isEmpty && (decide (ds.length ≤ ns.length) && (ds.all (isN ns) && decide (codes ds).Nodup))
  | _ => false
theorem paperB_not {ns : List (List Nat)} {d : D} (h : isT "tuple" d = false) : paperB ns d = false := by
  cases d <;> first | rfl | exact (tfF rfl h).elim
theorem word_eqOk {k : Nat} {l : List Nat} {d : D} (hl : IsWord l) (hd : Pl k d) : eqOk (sD l) d = true := by
  cases d <;> first
    | exact eqOk_fit (word_fit hl) rfl
    | (unfold eqOk; exact Bool.or_true _)
    | (exfalso; cases k <;> exact hd)
    | (rename_i x; exact eqOk_fit (word_fit hl) (tx_fit (by cases k <;> exact hd)))
theorem word_eqv {k : Nat} {l : List Nat} {d : D} (hd : Pl k d) : (sD l).eqv d = true ↔ ∃ x, d = .str x ∧ x.cps.toList = l := by
  cases d
  case str x =>
    rw [eqv_str, decide_eq_true_iff]
    constructor
    · intro e; exact ⟨x, rfl, by rw [← e]; rfl⟩
    · rintro ⟨y, e, h⟩; cases e; rw [← h]; rfl
  all_goals first
    | (exfalso; cases k <;> exact hd)
    | (constructor
       · intro e
         exact (tfF e (by simp [D.eqv, D.py, PyData.eqv])).elim
       · rintro ⟨y, e, _⟩; cases e)
theorem in_any {neg : Bool} {k : Nat} {ns : List (List Nat)} {d : D} (hw : ∀ l ∈ ns, IsWord l) (hd : Pl k d) :
    oInB neg d (.lst (ns.map sD)) = some (.bl (isN ns d != neg)) ∧ oInB neg d (.tup (ns.map sD)) = some (.bl (isN ns d != neg)) := by
  have h1 : ((ns.map sD).all fun y => eqOk y d) = true := List.all_eq_true.mpr fun y hy => by
    obtain ⟨l, hl, rfl⟩ := List.mem_map.mp hy
    exact word_eqOk (hw l hl) hd
  have h2 : ((ns.map sD).any fun y => y.eqv d) = isN ns d := by
    apply Bool.eq_iff_iff.mpr
    rw [List.any_eq_true]
    constructor
    · rintro ⟨y, hy, e⟩
      obtain ⟨l, hl, rfl⟩ := List.mem_map.mp hy
      obtain ⟨x, rfl, hx⟩ := (word_eqv hd).mp e
      exact decide_eq_true (by rw [hx]; exact hl)
    · intro h
      cases d <;> first | (cases h; done) | skip
      rename_i x
      exact ⟨sD x.cps.toList, List.mem_map.mpr ⟨_, of_decide_eq_true h, rfl⟩, (word_eqv hd).mpr ⟨x, rfl, rfl⟩⟩
  constructor
  · cases d <;> (show (if ((ns.map sD).all fun y => eqOk y _) = true then some (D.bl (((ns.map sD).any fun y => y.eqv _) != neg)) else none) = _; rw [if_pos h1, h2])
  · cases d <;> (show (if ((ns.map sD).all fun y => eqOk y _) = true then some (D.bl (((ns.map sD).any fun y => y.eqv _) != neg)) else none) = _; rw [if_pos h1, h2])
theorem joinT_len : ∀ (xs : List Str) (p : (Str → Bool) × Nat), (xs.foldl joinT p).2 = p.2 + xs.length ↔ xs.Nodup ∧ ∀ x ∈ xs, p.1 x = false
  | [], p => by simp
  | x :: r, p => by
    rw [List.foldl_cons, List.nodup_cons]
    have hle := joinT_le r (joinT p x)
    cases q : p.1 x with
    | true =>
      have e : (joinT p x).2 = p.2 := by unfold joinT; dsimp only; rw [q, if_pos rfl]
      rw [e] at hle
      constructor
      · intro h; rw [h, List.length_cons] at hle; omega
      · rintro ⟨_, h⟩; have := h x (List.mem_cons_self ..); rw [q] at this; cases this
    | false =>
      have e : (joinT p x).2 = p.2 + 1 := by unfold joinT; dsimp only; rw [q, if_neg (by simp)]
      have ih := joinT_len r (joinT p x)
      rw [e] at ih
      rw [List.length_cons, show p.2 + (r.length + 1) = p.2 + 1 + r.length by omega, ih]
      have ej : ∀ y, (joinT p x).1 y = (p.1 y || decide (y = x)) := fun _ => rfl
      constructor
      · rintro ⟨h1, h2⟩
        refine ⟨⟨fun hx => ?_, h1⟩, fun y hy => ?_⟩
        · have := h2 x hx; rw [ej] at this; simp at this
        · rcases List.mem_cons.mp hy with rfl | hy
          · exact q
          · have := h2 y hy; rw [ej, Bool.or_eq_false_iff] at this; exact this.1
      · rintro ⟨⟨h1, h2⟩, h3⟩
        refine ⟨h2, fun y hy => ?_⟩
        rw [ej, Bool.or_eq_false_iff]
        exact ⟨h3 y (List.mem_cons_of_mem _ hy), decide_eq_false fun e => h1 (e ▸ hy)⟩
theorem nodup_mkS {xs : List (List Nat)} : (xs.map mkS).Nodup ↔ xs.Nodup := by
  constructor
  · intro h
    exact (List.pairwise_map.mp h).imp fun h e => h (by rw [e])
  · intro h
    exact List.pairwise_map.mpr (h.imp fun h e => h (mkS_inj e))
theorem lenSet_eq {xs : List (List Nat)} (h : xs.length < 4000) : ∃ n : Nat, oLenSet (.tup (xs.map sD)) = some (.int n) ∧ (n = xs.length ↔ xs.Nodup) := by
  refine ⟨(allT (xs.map mkS)).2, ?_, ?_⟩
  · have e : xs.map sD = (xs.map mkS).map D.str := by rw [List.map_map]; rfl
    unfold oLenSet
    rw [e]
    dsimp only
    rw [txtsD_map]
    dsimp only
    rw [List.length_map, if_pos h]
  · have := joinT_len (xs.map mkS) (fun _ => false, 0)
    rw [List.length_map, Nat.zero_add] at this
    rw [← nodup_mkS]
    exact this.trans ⟨fun h => h.1, fun h => ⟨h, fun _ _ => rfl⟩⟩
def twice (xs : List (List Nat)) (i : Nat) : Bool := decide (xs[i]?.getD [] ∈ xs.take i)
theorem twice_all {xs : List (List Nat)} : ((List.range xs.length).all fun i => !twice xs i) = decide xs.Nodup := by
  apply Bool.eq_iff_iff.mpr
  rw [List.all_eq_true, decide_eq_true_iff, List.Nodup, List.pairwise_iff_getElem]
  constructor
  · intro h i j hi hj hij e
    have := h j (List.mem_range.mpr hj)
    unfold twice at this
    rw [List.getElem?_eq_getElem hj, Option.getD_some] at this
    have h2 : xs[j] ∈ xs.take j := by rw [← e]; exact List.mem_take_iff_getElem.mpr ⟨i, by omega, rfl⟩
    rw [decide_eq_true h2] at this
    cases this
  · intro h j hj
    have hj := List.mem_range.mp hj
    unfold twice
    rw [List.getElem?_eq_getElem hj, Option.getD_some]
    rw [decide_eq_false]
    · rfl
    · intro hm
      obtain ⟨i, hi, e⟩ := List.mem_take_iff_getElem.mp hm
      exact h i j (by omega) hj (by omega) e
theorem nodup_le {xs ns : List (List Nat)} (h : xs.Nodup) (hs : ∀ l ∈ xs, l ∈ ns) : xs.length ≤ ns.length := by
  induction xs generalizing ns with
  | nil => exact Nat.zero_le _
  | cons x r ih =>
    obtain ⟨h1, h2⟩ := List.nodup_cons.mp h
    have hx := hs x (List.mem_cons_self ..)
    have := ih (ns := ns.erase x) h2 fun l hl => (List.mem_erase_of_ne (fun e : l = x => h1 (by rw [← e]; exact hl))).mpr (hs l (List.mem_cons_of_mem _ hl))
    rw [List.length_erase_of_mem hx] at this
    have : 1 ≤ ns.length := List.length_pos_of_mem hx
    rw [List.length_cons]; omega
end DL
namespace V
open PySem L2 DL
end V

namespace DL
open PySem L2 PySem.W PyProof.Rows
/-! ### ranges of kinds -/
theorem pures_strs (xs : List (List Nat)) : D.pures (xs.map sD) = true := by
  induction xs with
  | nil => rfl
  | cons x r ih => show (true && D.pures (r.map sD)) = true; rw [ih]; rfl
theorem depth_strs (xs : List (List Nat)) : (tS xs).py.depth = 1 := by
  have h3 : PyData.depthAll (D.pys (xs.map sD)) = 0 := by
    induction xs with
    | nil => rfl
    | cons x r ih => show max 0 (PyData.depthAll (D.pys (r.map sD))) = 0; rw [ih]; rfl
  show PyData.depthAll (D.pys (xs.map sD)) + 1 = 1
  rw [h3]
theorem alike_strs : ∀ xs ys : List (List Nat), alikeAll (D.pys (xs.map sD)) (D.pys (ys.map sD)) = true
  | [], ys => by
    show alikeAll [] (D.pys (ys.map sD)) = true
    cases D.pys (ys.map sD) <;> rfl
  | _ :: _, [] => rfl
  | x :: xs, y :: ys => by
    show (true && alikeAll (D.pys (xs.map sD)) (D.pys (ys.map sD))) = true
    rw [alike_strs xs ys]; rfl
theorem lt_rows (xs ys : List (List Nat)) : oLt' (tS xs) (tS ys) = some (.bl (ltD (tS xs) (tS ys))) := by
  show (if D.pure (tS xs) = true ∧ D.pure (tS ys) = true ∧ PySem.W.alike (D.py (tS xs)) (D.py (tS ys)) = true ∧ (D.py (tS xs)).depth ≤ 64 then some (D.bl (PySem.W.dataLt (D.py (tS xs)) (D.py (tS ys)))) else none) = _
  rw [if_pos ⟨pures_strs xs, pures_strs ys, alike_strs xs ys, by rw [depth_strs]; decide⟩]
theorem paper_of {ns : List (List Nat)} {d : D} (h : paperB ns d = true) : ∃ xs : List (List Nat), d = tS xs ∧ (∀ l ∈ xs, l ∈ ns) ∧ xs.Nodup ∧ xs ≠ [] := by
  cases d <;> first | (cases h; done) | skip
  rename_i ds
  have h' : (!ds.isEmpty && (decide (ds.length ≤ ns.length) && (ds.all (isN ns) && decide (codes ds).Nodup))) = true := h
  rw [Bool.and_eq_true, Bool.and_eq_true, Bool.and_eq_true] at h'
  obtain ⟨h1, h2, h3, h4⟩ := h'
  obtain ⟨xs, rfl, hxs⟩ := among_of h3
  refine ⟨xs, rfl, hxs, ?_, fun e => by subst e; cases h1⟩
  rw [codes_map] at h4
  exact of_decide_eq_true h4
def risingD (ds : List D) : Bool := (ds.zip (ds.drop 1)).all fun p => ltD p.1 p.2
def kindsB (ns : List (List Nat)) : D → Bool
  | .tup ds => !ds.isEmpty && (ds.all (paperB ns) && risingD ds)
  | _ => false
theorem kindsB_not {ns : List (List Nat)} {d : D} (h : isT "tuple" d = false) : kindsB ns d = false := by
  cases d <;> first | rfl | exact (tfF rfl h).elim
theorem oNe_nil {xs : List D} : oNe' (.tup xs) (.tup []) = some (.bl (!xs.isEmpty)) := by
  show some (D.bl (xs.isEmpty != true)) = _
  cases xs <;> rfl
end DL
namespace V
open PySem L2 DL
theorem papers_rise {ns : List (List Nat)} {ds : List D} (h : ds.all (paperB ns) = true) : ∀ a ∈ ds, ∀ b ∈ ds, noOwn a = some a ∧ oLt' a b = some (.bl (ltD a b)) := fun a ha b hb => by
  obtain ⟨xs, rfl, _⟩ := paper_of (List.all_eq_true.mp h a ha)
  obtain ⟨ys, rfl, _⟩ := paper_of (List.all_eq_true.mp h b hb)
  exact ⟨rfl, lt_rows xs ys⟩
theorem are_rising_papers {ns : List (List Nat)} {ds : List D} {s : Ds} (h : ds.all (paperB ns) = true) (hl : ds.length ≤ 1000) : c_are_rising [.tup ds] s = .ok (.bl (risingD ds)) s := by
  have := are_rising_gen (l := ds) (e := fun d => d) (lt := ltD) (s := s) (papers_rise h) hl
  rw [List.map_id'] at this; exact this
section
variable {k : Nat} {ns : List (List Nat)} {d : D} {v0 v1 v2 v4 v5 v7 v8 v9 v10 v11 v12 : Option D} {s : Ds} {tb : Str → Addr}
end
end V

namespace DL
open PySem L2 PySem.W PyProof.Rows
/-! ### comprehensions with two loops -/
section
variable {og og1 : OG} {mt mt1 : FB} {mi1 : FA} {me : FE} {ρ : Env} {s : Ds} {mi : FA} {vs1 : List Nat}
theorem lc2F_typed {β γ : Type} {e : β → D} {p0 : β → Bool} {l1 : β → List γ} {e1 : γ → D} {p1 : β → γ → Bool} {g : β → γ → D} : ∀ (l : List β) (n : Nat),
    (∀ b ∈ l, ∃ ρ2, og (e b) ρ = some ρ2 ∧ mt ρ2 s = .ok (p0 b) s ∧ (p0 b = true → mi1 ρ2 s = .ok ((l1 b).map e1) s ∧ ∀ c ∈ l1 b, ∃ ρ3, og1 (e1 c) (wipeD ρ2 vs1) = some ρ3 ∧ mt1 ρ3 s = .ok (p1 b c) s ∧ (p1 b c = true → me ρ3 s = .ok (g b c) s))) →
    n + (l.map fun b => (l1 b).length).sum ≤ sizeLine → lc2F og mt mi1 og1 mt1 me vs1 ρ (l.map e) n s = .ok ((l.filter p0).flatMap fun b => ((l1 b).filter (p1 b)).map (g b)) s
  | [], n, _, _ => rfl
  | b :: r, n, h, hl => by
    obtain ⟨ρ2, h1, h2, h3⟩ := h b (List.mem_cons_self ..)
    rw [List.map_cons, List.sum_cons] at hl
    rw [List.map_cons]
    unfold lc2F
    rw [h1, optO_some, Out.bind_ok, h2, Out.bindN_ok]
    cases q : p0 b with
    | false =>
      rw [if_neg (by simp), lc2F_typed r n (fun x m => h x (List.mem_cons_of_mem _ m)) (by omega)]
      simp [q]
    | true =>
      obtain ⟨h4, h5⟩ := h3 q
      rw [if_pos rfl, h4, Out.bindN_ok, lcF_typed (l1 b) n h5 (by omega), Out.bind_ok]
      have : (((l1 b).filter (p1 b)).map (g b)).length ≤ (l1 b).length := by rw [List.length_map]; exact List.length_filter_le _ _
      rw [lc2F_typed r _ (fun x m => h x (List.mem_cons_of_mem _ m)) (by omega), Out.bind_ok]
      simp [q]
theorem mLc2_of {β γ : Type} {vs : List Nat} (l : List β) (e : β → D) (l1 : β → List γ) (e1 : γ → D) (p1 : β → γ → Bool) (g : β → γ → D) (h1 : mi ρ s = .ok (l.map e) s)
    (h2 : ∀ b ∈ l, ∃ ρ2, og (e b) (wipeD ρ vs) = some ρ2 ∧ mi1 ρ2 s = .ok ((l1 b).map e1) s ∧ ∀ c ∈ l1 b, ∃ ρ3, og1 (e1 c) (wipeD ρ2 vs1) = some ρ3 ∧ mt1 ρ3 s = .ok (p1 b c) s ∧ (p1 b c = true → me ρ3 s = .ok (g b c) s))
    (hl : (l.map fun b => (l1 b).length).sum ≤ sizeLine) : mLc2 mi og mYes mi1 og1 mt1 me vs vs1 ρ s = .ok (.lst (l.flatMap fun b => ((l1 b).filter (p1 b)).map (g b))) s := by
  unfold mLc2
  rw [h1, Out.bind_ok, lc2F_typed (mt := mYes) (p0 := fun _ => true) (l1 := l1) (e1 := e1) (p1 := p1) (g := g) l 0 (fun b m => let ⟨ρ2, a, c, d⟩ := h2 b m; ⟨ρ2, a, rfl, fun _ => ⟨c, d⟩⟩) (by omega), List.filter_eq_self.mpr (fun _ _ => rfl)]
  rfl
end
/-! ### all papers -/
abbrev Row := List (List Nat)
def ext1 (ns : Row) (row : Row) : List Row := (ns.filter fun x => !decide (x ∈ row)).map fun x => row ++ [x]
def rowsN (ns : Row) : Nat → List Row
  | 0 => [[]]
  | n + 1 => (rowsN ns n).flatMap (ext1 ns)
def allRows (ns : Row) (n : Nat) : List Row := (List.range n).flatMap fun i => rowsN ns (i + 1)
theorem sum_le {α : Type} {f : α → Nat} {c : Nat} : ∀ {l : List α}, (∀ x ∈ l, f x ≤ c) → (l.map f).sum ≤ l.length * c
  | [], _ => by simp
  | x :: r, h => by
    have h1 := sum_le (l := r) fun y m => h y (List.mem_cons_of_mem _ m)
    have h2 := h x (List.mem_cons_self ..)
    rw [List.map_cons, List.sum_cons, List.length_cons, Nat.add_mul]; omega
theorem ext1_len {ns row : Row} : (ext1 ns row).length ≤ ns.length := by unfold ext1; rw [List.length_map]; exact List.length_filter_le _ _
theorem rowsN_len {ns : Row} (h : ns.length ≤ 4) : ∀ n, (rowsN ns n).length ≤ 4 ^ n
  | 0 => Nat.le_refl _
  | n + 1 => by
    unfold rowsN
    rw [List.length_flatMap]
    have h1 := sum_le (f := fun r => (ext1 ns r).length) (c := 4) (l := rowsN ns n) fun r _ => Nat.le_trans ext1_len h
    have h2 := rowsN_len h n
    rw [Nat.pow_succ]
    exact Nat.le_trans h1 (Nat.mul_le_mul_right _ h2)
theorem pow4 {n : Nat} (h : n ≤ 4) : 4 ^ n ≤ 256 := Nat.pow_le_pow_right (by decide) h
theorem allRows_len {ns : Row} (h : ns.length ≤ 4) {n : Nat} (hn : n ≤ 4) : (allRows ns n).length ≤ 340 := by
  unfold allRows
  rw [List.length_flatMap]
  have h1 := rowsN_len h 1
  have h2 := rowsN_len h 2
  have h3 := rowsN_len h 3
  have h4 := rowsN_len h 4
  match n, hn with
  | 0, _ => simp
  | 1, _ => simp [List.range_succ]; omega
  | 2, _ => simp [List.range_succ]; omega
  | 3, _ => simp [List.range_succ]; omega
  | 4, _ => simp [List.range_succ]; omega
theorem ext1_mem {ns row r : Row} : r ∈ ext1 ns row ↔ ∃ x ∈ ns, x ∉ row ∧ r = row ++ [x] := by
  unfold ext1
  constructor
  · intro h
    obtain ⟨x, hx, rfl⟩ := List.mem_map.mp h
    obtain ⟨h1, h2⟩ := List.mem_filter.mp hx
    exact ⟨x, h1, by simpa using h2, rfl⟩
  · rintro ⟨x, h1, h2, rfl⟩
    exact List.mem_map.mpr ⟨x, List.mem_filter.mpr ⟨h1, by simpa using h2⟩, rfl⟩
theorem rowsN_mem {ns : Row} : ∀ (n : Nat) (r : Row), r ∈ rowsN ns n ↔ r.length = n ∧ (∀ x ∈ r, x ∈ ns) ∧ r.Nodup
  | 0, r => by
    show r ∈ [[]] ↔ _
    rw [List.mem_singleton]
    constructor
    · rintro rfl; exact ⟨rfl, (fun _ h => (nomatch h)), List.nodup_nil⟩
    · rintro ⟨h, _⟩; exact List.length_eq_zero_iff.mp h
  | n + 1, r => by
    show r ∈ (rowsN ns n).flatMap (ext1 ns) ↔ _
    rw [List.mem_flatMap]
    constructor
    · rintro ⟨row, h1, h2⟩
      obtain ⟨x, hx, hn, rfl⟩ := ext1_mem.mp h2
      obtain ⟨a, b, c⟩ := (rowsN_mem n row).mp h1
      refine ⟨by simp [a], fun y hy => ?_, ?_⟩
      · rcases List.mem_append.mp hy with hy | hy
        · exact b y hy
        · rw [List.mem_singleton.mp hy]; exact hx
      · refine List.nodup_append.mpr ⟨c, by simp, fun y hy z hz e => ?_⟩
        rw [List.mem_singleton.mp hz] at e
        exact hn (e ▸ hy)
    · rintro ⟨a, b, c⟩
      have hne : r ≠ [] := fun e => by rw [e] at a; cases a
      refine ⟨r.dropLast, (rowsN_mem n _).mpr ⟨by rw [List.length_dropLast]; omega, fun x hx => b x ((List.dropLast_sublist r).subset hx), c.sublist (List.dropLast_sublist r)⟩, ext1_mem.mpr ⟨r.getLast hne, b _ (List.getLast_mem _), fun hm => ?_, (List.dropLast_concat_getLast hne).symm⟩⟩
      have e := List.dropLast_concat_getLast hne
      rw [← e] at c
      exact (List.nodup_append.mp c).2.2 _ hm _ (List.mem_singleton.mpr rfl) rfl
theorem ext1_nodup {ns row : Row} (h : ns.Nodup) : (ext1 ns row).Nodup := by
  unfold ext1
  refine List.pairwise_map.mpr ((h.filter _).imp fun {a b} hab e => hab ?_)
  simpa using e
theorem rowsN_nodup {ns : Row} (h : ns.Nodup) : ∀ n, (rowsN ns n).Nodup
  | 0 => by unfold rowsN; simp
  | n + 1 => by
    unfold rowsN
    rw [List.Nodup, List.pairwise_flatMap]
    refine ⟨fun r _ => ext1_nodup h, (rowsN_nodup h n).imp fun {a b} hab x hx y hy e => hab ?_⟩
    obtain ⟨u, _, _, rfl⟩ := ext1_mem.mp hx
    obtain ⟨v, _, _, rfl⟩ := ext1_mem.mp hy
    exact (List.append_inj' e rfl).1
theorem allRows_mem {ns : Row} {n : Nat} {r : Row} : r ∈ allRows ns n ↔ 1 ≤ r.length ∧ r.length ≤ n ∧ (∀ x ∈ r, x ∈ ns) ∧ r.Nodup := by
  unfold allRows
  rw [List.mem_flatMap]
  constructor
  · rintro ⟨i, hi, h⟩
    have hi := List.mem_range.mp hi
    obtain ⟨a, b, c⟩ := (rowsN_mem _ _).mp h
    exact ⟨by omega, by omega, b, c⟩
  · rintro ⟨h1, h2, h3, h4⟩
    exact ⟨r.length - 1, List.mem_range.mpr (by omega), (rowsN_mem _ _).mpr ⟨by omega, h3, h4⟩⟩
theorem allRows_nodup {ns : Row} (h : ns.Nodup) (n : Nat) : (allRows ns n).Nodup := by
  unfold allRows
  rw [List.Nodup, List.pairwise_flatMap]
  refine ⟨fun i _ => rowsN_nodup h _, (List.pairwise_lt_range (n := n)).imp fun {a b} hab x hx y hy e => ?_⟩
  have h1 := ((rowsN_mem _ _).mp hx).1
  have h2 := ((rowsN_mem _ _).mp hy).1
  rw [e] at h1; omega
/-! the order of papers -/
theorem toks_inj : ∀ {xs ys : Row}, keyToksAll (D.pys (xs.map sD)) = keyToksAll (D.pys (ys.map sD)) → xs = ys
  | [], [], _ => rfl
  | [], y :: ys, h => by
    have h' : ([.inl 0] : List (Int ⊕ List Nat)) = .inl 1 :: .inr y :: keyToksAll (D.pys (ys.map sD)) := h
    cases h'
  | x :: xs, [], h => by
    have h' : (.inl 1 :: .inr x :: keyToksAll (D.pys (xs.map sD)) : List (Int ⊕ List Nat)) = [.inl 0] := h
    cases h'
  | x :: xs, y :: ys, h => by
    have h' : (.inl 1 :: .inr x :: keyToksAll (D.pys (xs.map sD)) : List (Int ⊕ List Nat)) = .inl 1 :: .inr y :: keyToksAll (D.pys (ys.map sD)) := h
    obtain ⟨_, h2⟩ := List.cons.inj h'
    obtain ⟨h3, h4⟩ := List.cons.inj h2
    rw [Sum.inr.inj h3, toks_inj h4]
theorem ltD_tri {xs ys : Row} (h : xs ≠ ys) : ltD (tS xs) (tS ys) = true ∨ ltD (tS ys) (tS xs) = true := by
  cases q : ltD (tS xs) (tS ys) with
  | true => exact .inl rfl
  | false =>
    cases q2 : ltD (tS ys) (tS xs) with
    | true => exact .inr rfl
    | false => exact absurd (toks_inj ((listOrd itemOrd).total _ _ q q2)) h
def itemsOf : D → List D
  | .tup ds => ds
  | _ => []
def rowOf (d : D) : Row := codes (itemsOf d)
@[simp] theorem rowOf_tS (r : Row) : rowOf (tS r) = r := codes_map r
theorem sortD_rows {rs : List Row} (h : rs.Nodup) : ∃ rs' : List Row, rs'.Perm rs ∧ rs'.Pairwise (fun a b => ltD (tS a) (tS b) = true) ∧ sortD (rs.map tS) = rs'.map tS := by
  have hp := sortD_perm (rs.map tS)
  have e : ((sortD (rs.map tS)).map rowOf).map tS = sortD (rs.map tS) := by
    rw [List.map_map]
    conv => rhs; rw [← List.map_id (sortD (rs.map tS))]
    refine List.map_congr_left fun d hd => ?_
    obtain ⟨r, _, rfl⟩ := List.mem_map.mp (hp.subset hd)
    show tS (rowOf (tS r)) = tS r
    rw [rowOf_tS]
  refine ⟨(sortD (rs.map tS)).map rowOf, ?_, ?_, e.symm⟩
  · have := hp.map rowOf
    rw [List.map_map] at this
    have e2 : rs.map (rowOf ∘ tS) = rs := by
      conv => rhs; rw [← List.map_id rs]
      exact List.map_congr_left fun r _ => rowOf_tS r
    rwa [e2] at this
  · have h1 : (sortD (rs.map tS)).Pairwise (fun a b => ltD a b = true) := sortD_lt (List.pairwise_map.mpr (h.imp fun {l m} hlm => ltD_tri hlm))
    rw [← e] at h1
    exact List.pairwise_map.mp h1
theorem sorted_rows {rs : List Row} (h : ∀ r ∈ rs, r ≠ []) : oSortedT [.lst (rs.map tS)] = some (.lst (sortD (rs.map tS))) := by
  have : sortOk (rs.map tS) = true := by
    unfold sortOk
    rw [Bool.and_eq_true, Bool.and_eq_true, Bool.or_eq_true]
    refine ⟨List.all_eq_true.mpr fun d hd => ?_, List.all_eq_true.mpr fun d hd => List.all_eq_true.mpr fun d' hd' => ?_, .inl (List.all_eq_true.mpr fun d hd => ?_)⟩
    · obtain ⟨r, _, rfl⟩ := List.mem_map.mp hd
      rw [Bool.and_eq_true, decide_eq_true_iff, depth_strs]
      exact ⟨pures_strs r, by decide⟩
    · obtain ⟨r, _, rfl⟩ := List.mem_map.mp hd
      obtain ⟨r', _, rfl⟩ := List.mem_map.mp hd'
      exact alike_strs r r'
    · obtain ⟨r, hr, rfl⟩ := List.mem_map.mp hd
      cases r with
      | nil => exact absurd rfl (h _ hr)
      | cons x t => rfl
  exact if_pos this
/-- all papers, ascending -/
structure Kinds (ns : Row) (ks : List Row) : Prop where
  mem : ∀ r, r ∈ ks ↔ 1 ≤ r.length ∧ r.length ≤ ns.length ∧ (∀ x ∈ r, x ∈ ns) ∧ r.Nodup
  asc : ks.Pairwise (fun a b => ltD (tS a) (tS b) = true)
  len : ks.length ≤ 340
theorem Kinds.nodup {ns : Row} {ks : List Row} (h : Kinds ns ks) : ks.Nodup := h.asc.imp fun hlt e => by rw [e, ltD_irrefl] at hlt; cases hlt
theorem kinds_ex {ns : Row} (h : GoodNames ns) : ∃ ks, Kinds ns ks ∧ sortD ((allRows ns ns.length).map tS) = ks.map tS := by
  have hn : ns.Nodup := h.asc.imp fun hlt e => by rw [e] at hlt; exact List.lt_irrefl _ hlt
  obtain ⟨ks, h1, h2, h3⟩ := sortD_rows (allRows_nodup hn ns.length)
  exact ⟨ks, ⟨fun r => h1.mem_iff.trans allRows_mem, h2, by rw [h1.length_eq]; exact allRows_len h.le h.le⟩, h3⟩
end DL

namespace DL
open PySem L2 PySem.W PyProof.Rows
theorem nin_row {x : List Nat} {row : Row} (hx : IsWord x) (hw : ∀ l ∈ row, IsWord l) : oNin' (sD x) (tS row) = some (.bl (!decide (x ∈ row))) := nin_words (word_tx hx) hw
theorem rowsN_words {ns : Row} (hw : ∀ l ∈ ns, IsWord l) {n : Nat} {r : Row} (h : r ∈ rowsN ns n) : ∀ l ∈ r, IsWord l := fun l hl => hw l (((rowsN_mem n r).mp h).2.1 l hl)
theorem allRows_succ (ns : Row) (n : Nat) : allRows ns (n + 1) = allRows ns n ++ rowsN ns (n + 1) := by
  unfold allRows
  rw [List.range_succ, List.flatMap_append]
  simp
theorem allRows_ne (ns : Row) (n : Nat) : ∀ r ∈ allRows ns n, r ≠ [] := fun r hr z => by
  have := (allRows_mem.mp hr).1
  rw [z] at this; cases this
theorem range2_nat {a b : Nat} (h : a ≤ b) (hb : b ≤ 1000) : oRange2 [.int (a : Int), .int (b : Int)] = some ((List.range (b - a)).map fun i => .int ((a + i : Nat) : Int)) := by
  have h1 : (a : Int).natAbs < 2 ^ 62 := by rw [Int.natAbs_natCast]; exact Nat.lt_of_le_of_lt (show a ≤ 1000 by omega) (by decide)
  have h2 : (b : Int).natAbs < 2 ^ 62 := by rw [Int.natAbs_natCast]; exact Nat.lt_of_le_of_lt hb (by decide)
  show (if (a : Int).natAbs < 2 ^ 62 ∧ (b : Int).natAbs < 2 ^ 62 then some (rangeD a ((b : Int) - a).toNat) else none) = _
  rw [if_pos ⟨h1, h2⟩]
  have e : ((b : Int) - (a : Int)).toNat = b - a := by omega
  rw [e]
  unfold rangeD
  congr 1
end DL
namespace V
open PySem L2 DL
section
variable {ns : Row} {s : Ds}
/-! the law's own list -/
end
end V

namespace DL
open PySem L2 PySem.W PyProof.Rows
/-- a comprehension whose items are drawn -/
theorem lcF_drawn {og : OG} {me : FE} {ρ : Env} {a : Addr} {ob : List (Addr × D)} {P : D → Prop} {E : Str → List (Str × D) → Ds → Prop} : ∀ (ds : List D) (n : Nat) (m : Int) (Q : List D → Ds → Prop),
    (∀ d ∈ ds, ∀ m' : Int, m ≤ m' → m' < m + ds.length → ∃ ρ2, og d ρ = some ρ2 ∧ ∀ Q' : D → Ds → Prop, (∀ x, P x → Q' x ⟨some (a, m' + 1), ob⟩) → (me ρ2 ⟨some (a, m'), ob⟩).post Q' (fun _ _ _ => False)) → n + ds.length ≤ sizeLine →
    (∀ xs : List D, xs.length = ds.length → (∀ x ∈ xs, P x) → Q xs ⟨some (a, m + ds.length), ob⟩) → (lcF og mYes me ρ ds n ⟨some (a, m), ob⟩).post Q E
  | [], n, m, Q, _, _, h => by
    have := h [] rfl (fun _ z => nomatch z)
    simpa [lcF] using this
  | d :: r, n, m, Q, h, hl, hq => by
    rw [List.length_cons] at hl
    obtain ⟨ρ2, h1, h2⟩ := h d (List.mem_cons_self ..) m (Int.le_refl _) (by rw [List.length_cons]; omega)
    unfold lcF
    rw [h1, optO_some, Out.bind_ok, mYes_r, Out.bindN_ok, if_pos rfl, post_bindN']
    refine h2 _ fun x hx => ?_
    rw [if_pos (by omega), post_bind']
    refine lcF_drawn r (n + 1) (m + 1) _ (fun d hd m' hm1 hm2 => h d (List.mem_cons_of_mem _ hd) m' (by omega) (by rw [List.length_cons]; omega)) (by omega) fun xs h3 h4 => ?_
    have := hq (x :: xs) (by simp [h3]) (fun y hy => by
      rcases List.mem_cons.mp hy with rfl | hy
      · exact hx
      · exact h4 y hy)
    rw [List.length_cons, show m + ((r.length + 1 : Nat) : Int) = m + 1 + (r.length : Int) by omega] at this
    exact this
theorem eqvAll_strs : ∀ xs ys : Row, PyData.eqvAll (D.pys (xs.map sD)) (D.pys (ys.map sD)) = decide (xs = ys)
  | [], [] => rfl
  | [], y :: ys => rfl
  | x :: xs, [] => rfl
  | x :: xs, y :: ys => by
    show PyData.eqvAll ((sD x).py :: D.pys (xs.map sD)) ((sD y).py :: D.pys (ys.map sD)) = _
    simp only [PyData.eqvAll]
    rw [eqvAll_strs xs ys]
    have := eqv_sD x y
    unfold D.eqv at this
    rw [this]
    apply Bool.eq_iff_iff.mpr
    simp
theorem eqv_rows (xs ys : Row) : (tS xs).eqv (tS ys) = decide (xs = ys) := by
  show PyData.eqv (.tuple (D.pys (xs.map sD))) (.tuple (D.pys (ys.map sD))) = _
  simp only [PyData.eqv]
  exact eqvAll_strs xs ys
theorem in_rows {r : Row} {rs : List Row} (hr : ∀ l ∈ r, IsWord l) (hs : ∀ x ∈ rs, ∀ l ∈ x, IsWord l) : oIn' (tS r) (.lst (rs.map tS)) = some (.bl (decide (r ∈ rs))) := by
  have h1 : ((rs.map tS).all fun y => eqOk y (tS r)) = true := List.all_eq_true.mpr fun y hy => by
    obtain ⟨l, hl, rfl⟩ := List.mem_map.mp hy
    exact eqOk_fit (words_fit (hs l hl)) (words_fit hr)
  have h2 : ((rs.map tS).any fun y => y.eqv (tS r)) = decide (r ∈ rs) := by
    apply Bool.eq_iff_iff.mpr
    rw [List.any_eq_true, decide_eq_true_iff]
    constructor
    · rintro ⟨y, hy, e⟩
      obtain ⟨l, hl, rfl⟩ := List.mem_map.mp hy
      rw [eqv_rows, decide_eq_true_iff] at e
      rw [← e]; exact hl
    · intro h
      exact ⟨tS r, List.mem_map.mpr ⟨_, h, rfl⟩, by rw [eqv_rows]; simp⟩
  show (if ((rs.map tS).all fun y => eqOk y (tS r)) = true then some (D.bl (((rs.map tS).any fun y => y.eqv (tS r)) != false)) else none) = _
  rw [if_pos h1, h2]; cases decide (r ∈ rs) <;> rfl
theorem nodup_le' {α : Type} [DecidableEq α] {xs ns : List α} (h : xs.Nodup) (hs : ∀ l ∈ xs, l ∈ ns) : xs.length ≤ ns.length := by
  induction xs generalizing ns with
  | nil => exact Nat.zero_le _
  | cons x r ih =>
    obtain ⟨h1, h2⟩ := List.nodup_cons.mp h
    have hx := hs x (List.mem_cons_self ..)
    have := ih (ns := ns.erase x) h2 fun l hl => (List.mem_erase_of_ne (fun e : l = x => h1 (by rw [← e]; exact hl))).mpr (hs l (List.mem_cons_of_mem _ hl))
    rw [List.length_erase_of_mem hx] at this
    have : 1 ≤ ns.length := List.length_pos_of_mem hx
    rw [List.length_cons]; omega
theorem Kinds.words {ns : Row} {ks : List Row} (h : Kinds ns ks) (hw : ∀ l ∈ ns, IsWord l) {r : Row} (hr : r ∈ ks) : ∀ l ∈ r, IsWord l := fun l hl => hw l (((h.mem r).mp hr).2.2.1 l hl)
theorem Kinds.pos {ns : Row} {ks : List Row} (h : Kinds ns ks) (hn : 1 ≤ ns.length) : 1 ≤ ks.length := by
  have : [ns[0]] ∈ ks := (h.mem _).mpr ⟨by simp, by simpa using hn, fun x hx => by rw [List.mem_singleton.mp hx]; exact List.getElem_mem _, by simp⟩
  exact List.length_pos_of_mem this
theorem rows_of_P {ks : List Row} : ∀ {xs : List D}, (∀ x ∈ xs, ∃ r ∈ ks, x = tS r) → ∃ rs : List Row, xs = rs.map tS ∧ rs.length = xs.length ∧ ∀ r ∈ rs, r ∈ ks
  | [], _ => ⟨[], rfl, rfl, fun _ h => nomatch h⟩
  | x :: t, h => by
    obtain ⟨rs, h1, h2, h3⟩ := rows_of_P (xs := t) fun y hy => h y (List.mem_cons_of_mem _ hy)
    obtain ⟨r, hr, e⟩ := h x (List.mem_cons_self ..)
    refine ⟨r :: rs, by rw [e, h1]; rfl, by simp [h2], fun y hy => ?_⟩
    rcases List.mem_cons.mp hy with rfl | hy
    · exact hr
    · exact h3 y hy
end DL
namespace V
open PySem L2 DL
end V

namespace DL
open PySem L2 PySem.W PyProof.Rows
/-! ### moves -/
theorem placeOf_ex {z : Str} : ∀ {ys : List Str}, z ∈ ys → ∃ j, placeOf z ys = some j ∧ j < ys.length
  | [], h => nomatch h
  | y :: r, h => by
    unfold placeOf
    by_cases e : y = z
    · exact ⟨0, by rw [if_pos e], by simp⟩
    · obtain ⟨j, h1, h2⟩ := placeOf_ex (ys := r) (by rcases List.mem_cons.mp h with h | h; exact absurd h.symm e; exact h)
      exact ⟨j + 1, by rw [if_neg e, h1]; rfl, by simpa using h2⟩
noncomputable def moveD (r : Row) (x : List Nat) : D := if x ∈ r then (match placeOf (mkS x) (r.map mkS) with
  | some (j + 1) => tS (r.take j ++ x :: (r[j]?.getD []) :: r.drop (j + 2))
  | _ => .non) else tS (r ++ [x])
theorem index_eq {r : Row} {x : List Nat} (h : x ∈ r) : ∃ j, oIndex (tS r) (sD x) = some (.int (j : Nat)) ∧ placeOf (mkS x) (r.map mkS) = some j ∧ j < r.length := by
  obtain ⟨j, h1, h2⟩ := placeOf_ex (z := mkS x) (ys := r.map mkS) (List.mem_map.mpr ⟨x, h, rfl⟩)
  refine ⟨j, ?_, h1, by simpa using h2⟩
  have e : r.map sD = (r.map mkS).map D.str := by rw [List.map_map]; rfl
  unfold oIndex
  dsimp only
  rw [e, txtsD_map]
  dsimp only
  rw [h1]; rfl
end DL
namespace V
open PySem L2 DL
section
variable {r : Row} {x : List Nat} {s : Ds}
end
end V
namespace DL
open PySem L2 PySem.W PyProof.Rows
theorem row_pl {r : Row} (h : ∀ l ∈ r, IsWord l) : Ts 1 (tS r) := fun d hd => by
  obtain ⟨l, hl, rfl⟩ := List.mem_map.mp hd
  exact word_tx (h l hl)
theorem row_wt {r : Row} (h : ∀ l ∈ r, IsWord l) : wt (tS r) ≤ 12 * r.length + 3 := by
  have := wts_bound (m := 10) (ds := r.map sD) fun d hd => by
    obtain ⟨l, hl, rfl⟩ := List.mem_map.mp hd
    exact word_wt (h l hl)
  rw [List.length_map] at this
  show wts (r.map sD) + 3 ≤ _
  omega
theorem rows_pl {rs : List Row} (h : ∀ r ∈ rs, ∀ l ∈ r, IsWord l) : Ts 2 (.tup (rs.map tS)) := fun d hd => by
  obtain ⟨r, hr, rfl⟩ := List.mem_map.mp hd
  exact row_pl (h r hr)
theorem rows_wt {rs : List Row} (h : ∀ r ∈ rs, ∀ l ∈ r, IsWord l) (hl : ∀ r ∈ rs, r.length ≤ 4) : wts (rs.map tS) ≤ 53 * rs.length := by
  have := wts_bound (m := 51) (ds := rs.map tS) fun d hd => by
    obtain ⟨r, hr, rfl⟩ := List.mem_map.mp hd
    have h1 := row_wt (h r hr)
    have h2 := hl r hr
    omega
  rw [List.length_map] at this
  omega
theorem moveD_ok {r : Row} {x : List Nat} (hr : ∀ l ∈ r, IsWord l) (hx : IsWord x) (hl : r.length ≤ 4) : Pl 1 (moveD r x) ∧ wt (moveD r x) ≤ 70 := by
  unfold moveD
  split
  · rename_i hm
    obtain ⟨j, h1, h2, h3⟩ := index_eq hm
    rw [h2]
    cases j with
    | zero => exact ⟨trivial, show 5 ≤ 70 by decide⟩
    | succ j =>
      have hw : ∀ l ∈ r.take j ++ x :: (r[j]?.getD []) :: r.drop (j + 2), IsWord l := fun l hl => by
        rcases List.mem_append.mp hl with hl | hl
        · exact hr l (List.mem_of_mem_take hl)
        · rcases List.mem_cons.mp hl with rfl | hl
          · exact hx
          · rcases List.mem_cons.mp hl with rfl | hl
            · rw [List.getElem?_eq_getElem (by omega)]; exact hr _ (List.getElem_mem _)
            · exact hr l (List.mem_of_mem_drop hl)
      have h5 := row_wt hw
      simp only [List.length_append, List.length_take, List.length_cons, List.length_drop] at h5
      exact ⟨(row_pl hw).pl, by dsimp only; omega⟩
  · have hw : ∀ l ∈ r ++ [x], IsWord l := fun l hl => by
      rcases List.mem_append.mp hl with hl | hl
      · exact hr l hl
      · rw [List.mem_singleton.mp hl]; exact hx
    have h5 := row_wt hw
    simp only [List.length_append, List.length_cons, List.length_nil] at h5
    exact ⟨(row_pl hw).pl, by omega⟩
theorem rev_not {ns : Row} (h : GoodNames ns) : namesB (tS ns.reverse) = false := by
  apply Bool.eq_false_iff.mpr
  intro z
  have z' : (decide (2 ≤ (ns.reverse.map sD).length) && (decide ((ns.reverse.map sD).length ≤ 4) && ((ns.reverse.map sD).all isW && risingB (codes (ns.reverse.map sD))))) = true := z
  rw [Bool.and_eq_true, Bool.and_eq_true, Bool.and_eq_true, codes_map] at z'
  have h1 := rising_iff.mp z'.2.2.2
  have h2 := List.pairwise_reverse.mp h1
  have hg := h.ge
  have a1 := List.pairwise_iff_getElem.mp h.asc 0 1 (by omega) (by omega) (by omega)
  have a2 := List.pairwise_iff_getElem.mp h2 0 1 (by omega) (by omega) (by omega)
  exact List.lt_irrefl _ (List.lt_trans a1 a2)
end DL

namespace V
open PySem L2 DL
section
variable {ns : Row} {v0 v1 v2 v3 v4 v5 v9 v10 v11 v12 : Option D} {s : Ds} {tb : Str → Addr}
end
theorem th_row {r : Row} (h : ∀ l ∈ r, IsWord l) (hl : r.length ≤ 60) : Th (tS r) := ⟨(row_pl h).pl.mono (by omega), by have := row_wt h; omega⟩
theorem th_rowL {r : Row} (h : ∀ l ∈ r, IsWord l) (hl : r.length ≤ 60) : Th (.lst (r.map sD)) := ⟨fun d hd => Pl.mono (k := 0) (n := 8) (Nat.zero_le _) (row_pl h d hd : Ts 0 d).pl, by
  have := row_wt h
  have e : wt (tS r) = wts (r.map sD) + 3 := rfl
  show wts (r.map sD) + 2 ≤ 1000
  omega⟩
theorem th_rows {rs : List D} (h : ∀ d ∈ rs, Pl 8 d) (hl : wts rs ≤ 900) : Th (.tup rs) ∧ Th (.lst rs) := ⟨⟨h, by show wts rs + 3 ≤ 1000; omega⟩, ⟨h, by show wts rs + 2 ≤ 1000; omega⟩⟩
theorem zz_word : IsWord [122, 122] := wordB_iff.mp (by decide)
theorem zz_str : (D.str "zz") = sD [122, 122] := by
  have : (("zz" : String) : Str) = mkS [122, 122] := by decide +kernel
  rw [this]
theorem cut1 {xs : List D} : oCut (.tup xs) none (some 1) = some (.tup (xs.take 1)) := cut_tup_to xs 1
end V

namespace V
open PySem L2 DL
end V


set_option Elab.async false
set_option linter.all false
set_option maxRecDepth 100000
set_option maxHeartbeats 1000000
namespace DL
open PySem L2 PySem.W PyProof.Rows
/-! ### the looks at a rule's fields -/
def isI (lo hi : Int) : D → Bool
  | .int i => decide (lo ≤ i) && decide (i ≤ hi)
  | _ => false
def pairB (l : Int) (q : Bool) : D → Bool
  | .tup [x, .int b] => decide (l ≤ b) && (decide (b ≤ 100) && isI (l - 1) (b - bI q) x)
  | _ => false
def overB : D → Bool
  | .bl _ => true
  | _ => false
def isS (l : List Nat) : D → Bool
  | .str x => decide (x.cps.toList = l)
  | _ => false
def orderB (ns : Row) : D → Bool
  | .tup ds => decide (ds.length = ns.length) && ns.all fun l => ds.any (isS l)
  | _ => false
theorem isI_not {lo hi : Int} {d : D} (h : ∀ i, d ≠ .int i) : isI lo hi d = false := by
  cases d <;> first | rfl | exact absurd rfl (h _)
theorem pairB_not {l : Int} {q : Bool} {d : D} (h : isT "tuple" d = false) : pairB l q d = false := by
  cases d <;> first | rfl | exact (tfF rfl h).elim
theorem pairB_len {l : Int} {q : Bool} {ds : List D} (h : ds.length ≠ 2) : pairB l q (.tup ds) = false := by
  match ds, h with
  | [], _ => rfl
  | [_], _ => rfl
  | [_, _], h => exact absurd rfl h
  | _ :: y :: _ :: _, _ => cases y <;> rfl
theorem pairB_2 {l : Int} {q : Bool} {x y : D} (h : ∀ i, y ≠ .int i) : pairB l q (.tup [x, y]) = false := by
  cases y <;> first | rfl | exact absurd rfl (h _)
theorem orderB_not {ns : Row} {d : D} (h : isT "tuple" d = false) : orderB ns d = false := by
  cases d <;> first | rfl | exact (tfF rfl h).elim
theorem overB_eq {k : Nat} {d : D} (h : Pl k d) : isT "bool" d = overB d := by
  cases d <;> first | rfl | (exfalso; cases k <;> exact h)
theorem isI_tt {k : Nat} {d : D} (hd : Pl k d) : (∃ i, d = .int i) ∨ ((∀ i, d ≠ .int i) ∧ (isT "int" d = false ∨ isT "bool" d = true)) := by
  cases d <;> first
    | exact .inl ⟨_, rfl⟩
    | exact .inr ⟨fun _ => nofun, .inl rfl⟩
    | exact .inr ⟨fun _ => nofun, .inr rfl⟩
    | (exfalso; cases k <;> exact hd)
theorem strs_of {k : Nat} : ∀ {ds : List D}, (∀ d ∈ ds, Pl k d) → (ds.all fun d => isT "str" d) = true → ∃ xs : Row, ds = xs.map sD ∧ ∀ l ∈ xs, ∀ c ∈ l, isTx c
  | [], _, _ => ⟨[], rfl, fun _ h => nomatch h⟩
  | d :: r, hp, h => by
    rw [List.all_cons, Bool.and_eq_true] at h
    obtain ⟨xs, h1, h2⟩ := strs_of (fun x m => hp x (List.mem_cons_of_mem _ m)) h.2
    obtain ⟨x, rfl⟩ := isT_str_eq h.1
    refine ⟨x.cps.toList :: xs, by rw [h1]; rfl, fun l hl => ?_⟩
    rcases List.mem_cons.mp hl with rfl | hl
    · exact V.pl_str (hp _ (List.mem_cons_self ..))
    · exact h2 l hl
theorem any_isS {xs : Row} {l : List Nat} : (xs.map sD).any (isS l) = decide (l ∈ xs) := by
  apply Bool.eq_iff_iff.mpr
  rw [List.any_eq_true, decide_eq_true_iff]
  constructor
  · rintro ⟨d, hd, e⟩
    obtain ⟨x, hx, rfl⟩ := List.mem_map.mp hd
    have e' : x = l := of_decide_eq_true e
    rw [← e']; exact hx
  · intro h
    exact ⟨sD l, List.mem_map.mpr ⟨l, h, rfl⟩, decide_eq_true rfl⟩
theorem perm_of {ns xs : Row} (hn : ns.Nodup) (hl : xs.length = ns.length) (h : ∀ l ∈ ns, l ∈ xs) : xs.Perm ns := by
  induction ns generalizing xs with
  | nil =>
    have : xs = [] := List.length_eq_zero_iff.mp hl
    rw [this]
  | cons n r ih =>
    obtain ⟨h1, h2⟩ := List.nodup_cons.mp hn
    have hx := h n (List.mem_cons_self ..)
    have hp := List.perm_cons_erase hx
    have := ih (xs := xs.erase n) h2 (by rw [List.length_erase_of_mem hx, hl, List.length_cons]; rfl) fun l hl => (List.mem_erase_of_ne (fun e : l = n => h1 (by rw [← e]; exact hl))).mpr (h l (List.mem_cons_of_mem _ hl))
    exact hp.trans (this.cons n)
theorem orderB_strs {ns xs : Row} (hn : ns.Nodup) : orderB ns (tS xs) = true ↔ xs.Perm ns := by
  show (decide ((xs.map sD).length = ns.length) && ns.all fun l => (xs.map sD).any (isS l)) = true ↔ _
  rw [Bool.and_eq_true, decide_eq_true_iff, List.all_eq_true, List.length_map]
  constructor
  · rintro ⟨h1, h2⟩
    refine perm_of hn h1 fun l hl => ?_
    have := h2 l hl
    rw [any_isS] at this
    exact of_decide_eq_true this
  · intro h
    refine ⟨h.length_eq, fun l hl => ?_⟩
    rw [any_isS]
    exact decide_eq_true (h.mem_iff.mpr hl)
theorem orderB_notstrs {ns : Row} (hn : ns.Nodup) {ds : List D} (h : (ds.all fun d => isT "str" d) = false) : orderB ns (.tup ds) = false := by
  apply Bool.eq_false_iff.mpr
  intro z
  have z' : (decide (ds.length = ns.length) && ns.all fun l => ds.any (isS l)) = true := z
  rw [Bool.and_eq_true, decide_eq_true_iff, List.all_eq_true] at z'
  obtain ⟨h1, h2⟩ := z'
  have hlt : (ds.filter fun d => isT "str" d).length < ds.length := by
    rcases Nat.lt_or_ge (ds.filter fun d => isT "str" d).length ds.length with g | g
    · exact g
    · exfalso
      have e : ds.filter (fun d => isT "str" d) = ds := List.filter_sublist.eq_of_length (Nat.le_antisymm (List.length_filter_le _ _) g)
      have : (ds.all fun d => isT "str" d) = true := List.all_eq_true.mpr fun d hd => by
        rw [← e] at hd
        exact (List.mem_filter.mp hd).2
      rw [h] at this; cases this
  have := nodup_le' (xs := ns) (ns := (ds.filter fun d => isT "str" d).map codesOf) hn fun l hl => by
    obtain ⟨d, hd, e⟩ := List.any_eq_true.mp (h2 l hl)
    cases d <;> first | (cases e; done) | skip
    rename_i x
    exact List.mem_map.mpr ⟨.str x, List.mem_filter.mpr ⟨hd, rfl⟩, of_decide_eq_true e⟩
  rw [List.length_map] at this
  omega
theorem tx_fitT {xs : Row} (h : ∀ l ∈ xs, ∀ c ∈ l, isTx c) : (tS xs).fit = true := (fitK_tup (k := 0) fun d hd => by
  obtain ⟨l, hl, rfl⟩ := List.mem_map.mp hd
  exact fitK_str fun c hc => by have := (h l hl c hc).2.1; omega).fit (by decide)
theorem eq_rows {xs ys : Row} (hx : ∀ l ∈ xs, ∀ c ∈ l, isTx c) (hy : ∀ l ∈ ys, ∀ c ∈ l, isTx c) (hne : ys ≠ []) : oEq' (tS xs) (tS ys) = some (.bl (decide (xs = ys))) := by
  have e : oEq' (tS xs) (tS ys) = (if (tS xs).fit = true ∧ (tS ys).fit = true then some (D.bl ((tS xs).eqv (tS ys) != false)) else none) := by
    unfold oEq' oEqB
    split
    · rename_i z
      cases ys with
      | nil => exact absurd rfl hne
      | cons _ _ => cases z
    · rename_i z; cases z
    · rfl
  rw [e, if_pos ⟨tx_fitT hx, tx_fitT hy⟩, eqv_rows]
  cases decide (xs = ys) <;> rfl
theorem eqOk_S {k : Nat} {l : List Nat} {d : D} (hl : IsWord l) (hd : Pl k d) : eqOk d (sD l) = true := by
  cases d <;> first
    | exact eqOk_fit rfl (word_fit hl)
    | (unfold eqOk; exact Bool.or_true _)
    | (exfalso; cases k <;> exact hd)
    | exact eqOk_fit (tx_fit (V.pl_str hd)) (word_fit hl)
theorem eqv_S {k : Nat} {l : List Nat} {d : D} (hd : Pl k d) : d.eqv (sD l) = isS l d := by
  cases d
  case str x =>
    rw [eqv_str]
    apply Bool.eq_iff_iff.mpr
    rw [decide_eq_true_iff]
    constructor
    · intro e; rw [e]; exact decide_eq_true rfl
    · intro e
      have e' : x.cps.toList = l := of_decide_eq_true e
      rw [← e']; rfl
  all_goals first
    | (exfalso; cases k <;> exact hd)
    | (simp [D.eqv, D.py, PyData.eqv, isS])
theorem nin_S {k : Nat} {l : List Nat} {ds : List D} (hl : IsWord l) (hd : ∀ d ∈ ds, Pl k d) : oNin' (sD l) (.tup ds) = some (.bl (!ds.any (isS l))) := by
  have h1 : (ds.all fun y => eqOk y (sD l)) = true := List.all_eq_true.mpr fun y hy => eqOk_S hl (hd y hy)
  have h2 : (ds.any fun y => y.eqv (sD l)) = ds.any (isS l) := by
    apply Bool.eq_iff_iff.mpr
    rw [List.any_eq_true, List.any_eq_true]
    exact ⟨fun ⟨y, hy, e⟩ => ⟨y, hy, by rw [← eqv_S (hd y hy)]; exact e⟩, fun ⟨y, hy, e⟩ => ⟨y, hy, by rw [eqv_S (hd y hy)]; exact e⟩⟩
  show (if (ds.all fun y => eqOk y (sD l)) = true then some (D.bl ((ds.any fun y => y.eqv (sD l)) != true)) else none) = _
  rw [if_pos h1, h2]
  cases ds.any (isS l) <;> rfl
end DL
namespace V
open PySem L2 DL
section
variable {k : Nat} {d : D} {s : Ds} {lo hi : Int}
theorem is_number_any (hd : Pl k d) (h : ∀ i, d ≠ .int i) (h2 : isT "int" d = false ∨ isT "bool" d = true) : c_is_number [d] s = .ok (.bl false) s := by
  rcases h2 with h2 | h2
  · simp [c_is_number, m_is_number, own_pl hd, isi_pl hd, h2]
  · cases q : isT "int" d <;> simp [c_is_number, m_is_number, own_pl hd, isi_pl hd, h2, q]
theorem is_among_any (hd : Pl k d) : c_is_among [d, .int lo, .int hi] s = .ok (.bl (isI lo hi d)) s := by
  rcases isI_tt hd with ⟨i, rfl⟩ | ⟨h1, h2⟩
  · exact is_among_int
  · simp [c_is_among, m_is_among, own_pl hd, is_number_any hd h1 h2, isI_not h1]
theorem law_is_whole_any (hd : Pl k d) : c_law_is_whole [d, .int lo, .int hi] s = .ok (.bl (isI lo hi d)) s := by
  rcases isI_tt hd with ⟨i, rfl⟩ | ⟨h1, h2⟩
  · simp [c_law_is_whole, m_law_is_whole, isi_int, isI]
  · rcases h2 with h2 | h2
    · simp [c_law_is_whole, m_law_is_whole, own_pl hd, isi_pl hd, h2, isI_not h1]
    · cases q : isT "int" d <;> simp [c_law_is_whole, m_law_is_whole, own_pl hd, isi_pl hd, h2, q, isI_not h1]
theorem is_quota_any (hd : Pl k d) : c_is_quota [d] s = .ok (.bl (pairB 2 true d)) s := by
  cases q : isT "tuple" d with
  | false => simp [c_is_quota, m_is_quota, own_pl hd, isi_pl hd, q, pairB_not q]
  | true =>
    obtain ⟨ds, rfl⟩ := isT_tup_eq hd q
    obtain ⟨j, rfl, hds⟩ := pl_tup hd
    by_cases hl : ds.length = 2
    · match ds, hl, hds with
      | [x, y], _, hds =>
        have hx := hds x (by simp)
        have hy := hds y (by simp)
        rcases isI_tt hy with ⟨b, rfl⟩ | ⟨h1, _⟩
        · by_cases z1 : (2 : Int) ≤ b
          · by_cases z2 : b ≤ 100
            · simp [c_is_quota, m_is_quota, isi_tup, is_among_int, is_among_any (s := s) hx, own_pl hx, z1, z2, pairB, bI]
            · simp [c_is_quota, m_is_quota, isi_tup, is_among_int, z1, z2, pairB]
          · simp [c_is_quota, m_is_quota, isi_tup, is_among_int, z1, pairB]
        · simp [c_is_quota, m_is_quota, isi_tup, is_among_any (s := s) hy, own_pl hy, isI_not h1, pairB_2 h1]
    · have hl' : ¬ (ds.length : Int) = 2 := by omega
      simp [c_is_quota, m_is_quota, isi_tup, hl', pairB_len hl]
theorem is_hand_any (hd : Pl k d) : c_is_hand [d] s = .ok (.bl (pairB 1 false d)) s := by
  cases q : isT "tuple" d with
  | false => simp [c_is_hand, m_is_hand, own_pl hd, isi_pl hd, q, pairB_not q]
  | true =>
    obtain ⟨ds, rfl⟩ := isT_tup_eq hd q
    obtain ⟨j, rfl, hds⟩ := pl_tup hd
    by_cases hl : ds.length = 2
    · match ds, hl, hds with
      | [x, y], _, hds =>
        have hx := hds x (by simp)
        have hy := hds y (by simp)
        rcases isI_tt hy with ⟨b, rfl⟩ | ⟨h1, _⟩
        · by_cases z1 : (1 : Int) ≤ b
          · by_cases z2 : b ≤ 100
            · simp [c_is_hand, m_is_hand, isi_tup, is_among_int, is_among_any (s := s) hx, own_pl hx, z1, z2, pairB, bI]
            · simp [c_is_hand, m_is_hand, isi_tup, is_among_int, z1, z2, pairB]
          · simp [c_is_hand, m_is_hand, isi_tup, is_among_int, z1, pairB]
        · simp [c_is_hand, m_is_hand, isi_tup, is_among_any (s := s) hy, own_pl hy, isI_not h1, pairB_2 h1]
    · have hl' : ¬ (ds.length : Int) = 2 := by omega
      simp [c_is_hand, m_is_hand, isi_tup, hl', pairB_len hl]
theorem is_order_any {ns : Row} (hg : GoodNames ns) (hd : Pl k d) (hw : wt d ≤ 1000) : c_is_order [tS ns, d] s = .ok (.bl (orderB ns d)) s := by
  cases q : isT "tuple" d with
  | false => simp [c_is_order, m_is_order, own_pl hd, isi_pl hd, q, orderB_not q]
  | true =>
    obtain ⟨ds, rfl⟩ := isT_tup_eq hd q
    obtain ⟨j, rfl, hds⟩ := pl_tup hd
    have hws : wts ds + 3 ≤ 1000 := hw
    have hlen := wts_len ds
    have hn := nodup_of_asc hg.asc
    have e1 : ∀ v : Option D, mLc (mItems (mVar 1)) (ogName 2) mYes (mCallN (fIsiS isiS) (mCons (mVar 2) (mCons (mC (.ty "str")) mNil))) [2] [some (tS ns), some (.tup ds), v] s = .ok (.lst (ds.map fun d => .bl (isT "str" d))) s := fun v =>
      mLc_map (fun d => .bl (isT "str" d)) (by simp) (fun d hm => ⟨_, rfl, by simp [wipeD, own_pl (hds d hm), isi_pl (hds d hm)]⟩) (sz (by omega))
    cases h3 : (ds.all fun d => isT "str" d) with
    | false => simp [c_is_order, m_is_order, isi_tup, e1, oAll_map, h3, orderB_notstrs hn h3, -List.map_map]
    | true =>
      obtain ⟨xs, rfl, hxs⟩ := strs_of hds h3
      have hp := sortD_perm (xs.map sD)
      have e2 : sortD (xs.map sD) = ((sortD (xs.map sD)).map codesOf).map sD := by
        rw [List.map_map]
        conv => lhs; rw [← List.map_id (sortD (xs.map sD))]
        refine List.map_congr_left fun d hd => ?_
        obtain ⟨l, _, rfl⟩ := List.mem_map.mp (hp.subset hd)
        rfl
      have hp2 : ((sortD (xs.map sD)).map codesOf).Perm xs := by
        have := hp.map codesOf
        rw [List.map_map] at this
        have e3 : xs.map (codesOf ∘ sD) = xs := by
          conv => rhs; rw [← List.map_id xs]
          exact List.map_congr_left fun l _ => rfl
        rwa [e3] at this
      have hne : ns ≠ [] := fun z => by have := hg.ge; rw [z] at this; cases this
      have e4 := eq_rows (xs := (sortD (xs.map sD)).map codesOf) (ys := ns) (fun l hl => hxs l (hp2.subset hl)) (fun l hl => word_tx (hg.words l hl)) hne
      have e5 : decide ((sortD (xs.map sD)).map codesOf = ns) = orderB ns (tS xs) := by
        apply Bool.eq_iff_iff.mpr
        rw [decide_eq_true_iff, orderB_strs hn]
        constructor
        · intro e; rw [e] at hp2; exact hp2.symm
        · intro h
          rw [sortD_of_perm h hg.asc]
          exact codes_map ns
      have e6 : oEq' (.tup (sortD (xs.map sD))) (tS ns) = some (.bl (orderB ns (tS xs))) := by
        rw [e2, ← e5]; exact e4
      simp [c_is_order, m_is_order, isi_tup, e1, oAll_map, h3, sorted_strsT, e6, -List.map_map]
end
end V

set_option Elab.async false
set_option linter.all false
set_option maxRecDepth 100000
set_option maxHeartbeats 1000000
namespace DL
open PySem L2 PySem.W PyProof.Rows
/-- the fields of a rule besides its names -/
structure FV where
  f1 : D
  f2 : D
  f3 : D
  f4 : D
  f5 : D
def FV.l (v : FV) : List D := [v.f1, v.f2, v.f3, v.f4, v.f5]
def FV.T (ns : Row) (v : FV) : D := .tup (tS ns :: v.l)
def FV.O (ns : Row) (v : FV) : D := .obj "Rule" [("names", tS ns), ("seats", v.f1), ("quota", v.f2), ("over", v.f3), ("hand", v.f4), ("order", v.f5)]
def FV.wrong (ns : Row) (v : FV) : Option Str :=
  if isI 1 ((ns.length : Int) - 1) v.f1 = true then (if pairB 2 true v.f2 = true then (if overB v.f3 = true then (if pairB 1 false v.f4 = true then (if orderB ns v.f5 = true then none else some "order") else some "hand") else some "over") else some "quota") else some "seats"
def optS : Option Str → D
  | some w => .str w
  | none => .non
theorem eqLit {x y : Str} {b : Bool} (hx : (D.str x).fit = true) (hy : (D.str y).fit = true) (h : decide (x = y) = b) : oEq' (.str x) (.str y) = some (.bl b) := by
  show (if (D.str x).fit = true ∧ (D.str y).fit = true then some (D.bl ((D.str x).eqv (.str y) != false)) else none) = _
  rw [if_pos ⟨hx, hy⟩, eqv_str, h]; cases b <;> rfl
structure FOk (v : FV) : Prop where
  p : ∀ d ∈ v.l, Pl 9 d
  w : ∀ d ∈ v.l, wt d ≤ 1000
theorem FOk.p1 {v : FV} (h : FOk v) : Pl 9 v.f1 := h.p _ (by simp [FV.l])
theorem FOk.p2 {v : FV} (h : FOk v) : Pl 9 v.f2 := h.p _ (by simp [FV.l])
theorem FOk.p3 {v : FV} (h : FOk v) : Pl 9 v.f3 := h.p _ (by simp [FV.l])
theorem FOk.p4 {v : FV} (h : FOk v) : Pl 9 v.f4 := h.p _ (by simp [FV.l])
theorem FOk.p5 {v : FV} (h : FOk v) : Pl 9 v.f5 := h.p _ (by simp [FV.l])
theorem FOk.w5 {v : FV} (h : FOk v) : wt v.f5 ≤ 1000 := h.w _ (by simp [FV.l])
theorem FV.own (ns : Row) (v : FV) : noOwn (v.T ns) = some (v.T ns) := rfl
theorem FV.ownO (ns : Row) (v : FV) : noOwn (v.O ns) = some (v.O ns) := rfl
theorem FV.ix0 (ns : Row) (v : FV) : oIx' (v.T ns) (.int 0) = some (tS ns) := rfl
theorem FV.ix1 (ns : Row) (v : FV) : oIx' (v.T ns) (.int 1) = some v.f1 := rfl
theorem FV.ix2 (ns : Row) (v : FV) : oIx' (v.T ns) (.int 2) = some v.f2 := rfl
theorem FV.ix3 (ns : Row) (v : FV) : oIx' (v.T ns) (.int 3) = some v.f3 := rfl
theorem FV.ix4 (ns : Row) (v : FV) : oIx' (v.T ns) (.int 4) = some v.f4 := rfl
theorem FV.ix5 (ns : Row) (v : FV) : oIx' (v.T ns) (.int 5) = some v.f5 := rfl
theorem FV.g0 (ns : Row) (v : FV) (s : Ds) : fldD attO "names" s (v.O ns) = some (tS ns) := rfl
theorem FV.g1 (ns : Row) (v : FV) (s : Ds) : fldD attO "seats" s (v.O ns) = some v.f1 := rfl
theorem FV.g2 (ns : Row) (v : FV) (s : Ds) : fldD attO "quota" s (v.O ns) = some v.f2 := rfl
theorem FV.g3 (ns : Row) (v : FV) (s : Ds) : fldD attO "over" s (v.O ns) = some v.f3 := rfl
theorem FV.g4 (ns : Row) (v : FV) (s : Ds) : fldD attO "hand" s (v.O ns) = some v.f4 := rfl
theorem FV.g5 (ns : Row) (v : FV) (s : Ds) : fldD attO "order" s (v.O ns) = some v.f5 := rfl
end DL
namespace V
open PySem L2 DL
section
variable {s : Ds} {ns : Row} {v : FV}
theorem wr_pair {k : Nat} {w : Str} {p : D} {l : Int} {q : Bool} {a0 a1 a2 a3 a4 a5 a6 a10 : Option D} (hp : Pl k p) (e1 : oEq' (.str w) (.str "over") = some (.bl false)) (e2 : oEq' (.str w) (.str "quota") = some (.bl q)) :
    b_law_wrong1 [a0, a1, a2, a3, a4, a5, a6, some (.str w), some p, some (.int l), a10] s = if pairB l q p = true then .ok (.nx [a0, a1, a2, a3, a4, a5, a6, some (.str w), some p, some (.int l), a10]) s else .ok (.rt (.str w)) s := by
  cases z : isT "tuple" p with
  | false => simp [b_law_wrong1, e1, own_pl hp, isi_pl hp, z, pairB_not z]
  | true =>
    obtain ⟨ds, rfl⟩ := isT_tup_eq hp z
    obtain ⟨j, rfl, hds⟩ := pl_tup hp
    by_cases hl : ds.length = 2
    · match ds, hl, hds with
      | [x, y], _, hds =>
        have hx := hds x (by simp)
        have hy := hds y (by simp)
        rcases isI_tt hy with ⟨b, rfl⟩ | ⟨h1, _⟩
        · have ew : c_law_is_whole [.int b, .int l, .int 100] s = .ok (.bl (decide (l ≤ b) && decide (b ≤ 100))) s := law_is_whole_any (s := s) hy
          cases q1 : (decide (l ≤ b) && decide (b ≤ 100))
          · rw [q1] at ew
            have q2 : pairB l q (.tup [x, .int b]) = false := by
              show (decide (l ≤ b) && (decide (b ≤ 100) && isI (l - 1) (b - bI q) x)) = false
              rw [← Bool.and_assoc, q1]; rfl
            simp [b_law_wrong1, e1, isi_tup, ew, q2]
          · rw [q1] at ew
            have q2 : pairB l q (.tup [x, .int b]) = isI (l - 1) (b - bI q) x := by
              show (decide (l ≤ b) && (decide (b ≤ 100) && isI (l - 1) (b - bI q) x)) = _
              rw [← Bool.and_assoc, q1]; rfl
            have e3 : oInt1 [.bl q] = some (.int (bI q)) := by cases q <;> rfl
            simp [b_law_wrong1, e1, e2, e3, isi_tup, ew, q2, own_pl hx, law_is_whole_any (s := s) hx]
            cases isI (l - 1) (b - bI q) x <;> simp
        · simp [b_law_wrong1, e1, isi_tup, own_pl hy, law_is_whole_any (s := s) hy, isI_not h1, pairB_2 h1]
    · have hl' : ¬ (ds.length : Int) = 2 := by omega
      simp [b_law_wrong1, e1, isi_tup, hl', pairB_len hl]
theorem wr_order {k : Nat} {d : D} {a0 a2 a3 a4 a5 a7 a8 a9 a10 : Option D} (hg : GoodNames ns) (hd : Pl k d) : (mOr (mNot (mTest (mCallN (fIsiS isiS) (mCons (mVar 6) (mCons (mC (.ty "tuple")) mNil))))) (mOr (mTest (mBin oNe' (mCB oLen (mCons (mVar 6) mNil)) (mCB oLen (mCons (mVar 1) mNil)))) (mTest (mBin oNe' (mLc (mItems (mVar 1)) (ogName 10) (mTest (mBin oNin' (mVar 10) (mVar 6))) (mVar 10) [10]) (mLst mNil))))) [a0, some (tS ns), a2, a3, a4, a5, some d, a7, a8, a9, a10] s = .ok (!orderB ns d) s := by
  have h4 := hg.le
  cases z : isT "tuple" d with
  | false => simp [own_pl hd, isi_pl hd, z, orderB_not z]
  | true =>
    obtain ⟨ds, rfl⟩ := isT_tup_eq hd z
    obtain ⟨j, rfl, hds⟩ := pl_tup hd
    by_cases hl : ds.length = ns.length
    · have hl' : (ds.length : Int) = ns.length := by omega
      have e1 : ∀ v : Option D, mLc (mItems (mVar 1)) (ogName 10) (mTest (mBin oNin' (mVar 10) (mVar 6))) (mVar 10) [10] [a0, some (tS ns), a2, a3, a4, a5, some (.tup ds), a7, a8, a9, v] s = .ok (.lst ((ns.filter fun l => !ds.any (isS l)).map sD)) s := fun v =>
        mLc_if ns sD (fun l => !ds.any (isS l)) sD (by simp) (fun l hl => ⟨_, rfl, by simp [wipeD, nin_S (hg.words l hl) hds], fun _ => by simp [wipeD]⟩) (sz (by omega))
      have e2 : orderB ns (.tup ds) = ns.all fun l => ds.any (isS l) := by
        show (decide (ds.length = ns.length) && ns.all fun l => ds.any (isS l)) = _
        rw [decide_eq_true hl]; rfl
      have e3 := isEmpty_fm ns (fun l => ds.any (isS l)) sD
      simp only [mOr_r, mNot_r, mTest_r, mCallN_r, mCons_r, mVar_r, List.getElem?_cons_succ, List.getElem?_cons_zero, noOwn_tup, optO_some, Out.bind_ok, mC_r, mNil_r, isi_tup (T := "tuple") (by simp), Out.bindN_ok, tbl_r, isT_tup, Bool.not_true, Bool.false_eq_true, if_false, mBin_r, mCB_r, oLen_tup, List.length_map, hl', oNe_ii, decide_true, e1, mSeq_r, sized_ok (show ([] : List D).length ≤ 1000 by simp), ne_nil_lst, e2, e3]
    · have hl' : ¬ (ds.length : Int) = ns.length := by omega
      have e2 : orderB ns (.tup ds) = false := by
        show (decide (ds.length = ns.length) && ns.all fun l => ds.any (isS l)) = _
        rw [decide_eq_false hl]; rfl
      simp [isi_tup, hl', e2]
theorem law_wrong_eq (hg : GoodNames ns) (hv : FOk v) : c_law_wrong [v.T ns] s = .ok (optS (v.wrong ns)) s := by
  have w1 : oEq' (.str "quota") (.str "over") = some (.bl false) := eqLit (by decide +kernel) (by decide +kernel) (by decide +kernel)
  have w2 : oEq' (.str "quota") (.str "quota") = some (.bl true) := eqLit (by decide +kernel) (by decide +kernel) (by decide +kernel)
  have w3 : oEq' (.str "over") (.str "over") = some (.bl true) := eqLit (by decide +kernel) (by decide +kernel) (by decide +kernel)
  have w4 : oEq' (.str "hand") (.str "over") = some (.bl false) := eqLit (by decide +kernel) (by decide +kernel) (by decide +kernel)
  have w5 : oEq' (.str "hand") (.str "quota") = some (.bl false) := eqLit (by decide +kernel) (by decide +kernel) (by decide +kernel)
  have o1 := own_pl hv.p1
  have o2 := own_pl hv.p2
  have o3 := own_pl hv.p3
  have o4 := own_pl hv.p4
  have o5 := own_pl hv.p5
  have e1 := law_is_whole_any (s := s) (lo := 1) (hi := (ns.length : Int) - 1) hv.p1
  show c_law_wrong [.tup [tS ns, v.f1, v.f2, v.f3, v.f4, v.f5]] s = _
  unfold FV.wrong
  cases q1 : isI 1 ((ns.length : Int) - 1) v.f1 with
  | false =>
    rw [q1] at e1
    simp [c_law_wrong, m_law_wrong, o1, e1, optS]
  | true =>
    rw [q1] at e1
    simp [c_law_wrong, m_law_wrong, o1, o2, o3, o4, e1, -mOr_r]
    rw [forF_cons, og3_tup, optO_some, Out.bind_ok]
    simp only [List.set_cons_succ, List.set_cons_zero]
    rw [wr_pair (q := true) hv.p2 w1 w2]
    cases q2 : pairB 2 true v.f2 with
    | false => simp [optS]
    | true =>
      simp only [if_true, Out.bind_ok, forK_nx]
      rw [forF_cons, og3_tup, optO_some, Out.bind_ok]
      simp only [List.set_cons_succ, List.set_cons_zero]
      cases q3 : overB v.f3 with
      | false =>
        have := overB_eq hv.p3
        rw [q3] at this
        simp [b_law_wrong1, w3, o3, isi_pl hv.p3, this, optS]
      | true =>
        have := overB_eq hv.p3
        rw [q3] at this
        simp [b_law_wrong1, w3, o3, isi_pl hv.p3, this, -mOr_r]
        rw [forF_cons, og3_tup, optO_some, Out.bind_ok]
        simp only [List.set_cons_succ, List.set_cons_zero]
        have wp := fun (a0 a1 a2 a3 a4 a5 a6 a10 : Option D) => wr_pair (s := s) (l := 1) (q := false) (a0 := a0) (a1 := a1) (a2 := a2) (a3 := a3) (a4 := a4) (a5 := a5) (a6 := a6) (a10 := a10) hv.p4 w4 w5
        unfold b_law_wrong1 at wp
        rw [wp]
        cases q4 : pairB 1 false v.f4 with
        | false => simp [optS]
        | true =>
          simp only [if_true, Out.bind_ok, forK_nx, forF_nil, thenK_nx, mThen_r, mIfS_r]
          rw [wr_order hg hv.p5]
          cases q5 : orderB ns v.f5 <;> simp [optS]
end
end V

set_option Elab.async false
set_option linter.all false
set_option maxRecDepth 100000
set_option maxHeartbeats 1000000
namespace V
open PySem L2 DL
section
variable {s : Ds} {ns : Row} {v : FV}
def sets6 : FX := (mThen (mSetF attO "names" (mVar 0) (mVar 1)) (mThen (mSetF attO "seats" (mVar 0) (mVar 2)) (mThen (mSetF attO "quota" (mVar 0) (mVar 3)) (mThen (mSetF attO "over" (mVar 0) (mVar 4)) (mThen (mSetF attO "hand" (mVar 0) (mVar 5)) (mSetF attO "order" (mVar 0) (mVar 6)))))))
theorem sets6_eq {a : Addr} {d1 d2 d3 d4 d5 d6 : D} {v7 v8 v9 : Option D} (o1 : noOwn d1 = some d1) (o2 : noOwn d2 = some d2) (o3 : noOwn d3 = some d3) (o4 : noOwn d4 = some d4) (o5 : noOwn d5 = some d5) (o6 : noOwn d6 = some d6) :
    sets6 [some (.ref a), some d1, some d2, some d3, some d4, some d5, some d6, v7, v8, v9] (s.new a (.obj "Rule" [])) = .ok (.nx [some (.ref a), some d1, some d2, some d3, some d4, some d5, some d6, v7, v8, v9]) (s.new a (.obj "Rule" [("names", d1), ("seats", d2), ("quota", d3), ("over", d4), ("hand", d5), ("order", d6)])) := by
  unfold sets6
  rw [mThen_r, setF_new rfl rfl o1 (by decide +kernel) (by decide) (by intro p hp; cases hp)]
  simp only [Out.bind_ok, thenK_nx, mThen_r, List.nil_append]
  rw [setF_new rfl rfl o2 (by decide +kernel) (by simp) (by simp; decide)]
  simp only [Out.bind_ok, thenK_nx, mThen_r, List.nil_append]
  rw [setF_new rfl rfl o3 (by decide +kernel) (by simp) (by simp; decide)]
  simp only [Out.bind_ok, thenK_nx, mThen_r, List.nil_append]
  rw [setF_new rfl rfl o4 (by decide +kernel) (by simp) (by simp; decide)]
  simp only [Out.bind_ok, thenK_nx, mThen_r, List.nil_append]
  rw [setF_new rfl rfl o5 (by decide +kernel) (by simp) (by simp; decide)]
  simp only [Out.bind_ok, thenK_nx, mThen_r, List.nil_append]
  rw [setF_new rfl rfl o6 (by decide +kernel) (by simp) (by simp; decide)]
  rfl
theorem il_cons {w : Str} {b : Bool} {r : List D} {x0 x1 x2 x3 x4 x5 x6 x7 x8 x9 : Option D} : forF (og2 8 9) b_Rule___init__1 (.tup [.str w, .bl b] :: r) [x0, x1, x2, x3, x4, x5, x6, x7, x8, x9] s
    = if b = true then forF (og2 8 9) b_Rule___init__1 r [x0, x1, x2, x3, x4, x5, x6, x7, some (.str w), some (.bl b)] s else .ok (.ex "BadRule" [("place", .str w)] [x0, x1, x2, x3, x4, x5, x6, x7, some (.str w), some (.bl b)]) s := by
  rw [forF_cons, og2_tup, optO_some, Out.bind_ok]
  simp only [List.set_cons_succ, List.set_cons_zero]
  cases b
  · simp [b_Rule___init__1]
  · rw [if_pos rfl, ← forK_nx (ms := b_Rule___init__1) (og := og2 8 9) (r := r)]
    simp [b_Rule___init__1, -forK_nx]
/-- what a look at the fields ends with -/
def initO (a : Addr) (s : Ds) (ns : Row) (v : FV) : Out D := match v.wrong ns with
  | none => .ok .non (s.new a (v.O ns))
  | some w => .exc "BadRule" [("place", .str w)] (s.new a (.obj "Rule" []))
theorem init_any {a : Addr} (hg : GoodNames ns) (hv : FOk v) : c_Rule___init__ (.ref a :: tS ns :: v.l) (s.new a (.obj "Rule" [])) = initO a s ns v := by
  have o1 := own_pl hv.p1
  have o2 := own_pl hv.p2
  have o3 := own_pl hv.p3
  have o4 := own_pl hv.p4
  have o5 := own_pl hv.p5
  have e0 := fun s => need_names_good (s := s) hg
  have e1 := fun s => is_among_any (s := s) (lo := 1) (hi := (ns.length : Int) - 1) hv.p1
  have e2 := fun s => is_quota_any (s := s) hv.p2
  have e3 : isT "bool" v.f3 = overB v.f3 := overB_eq hv.p3
  have e4 := fun s => is_hand_any (s := s) hv.p4
  have e5 := fun s => is_order_any (s := s) hg hv.p5 hv.w5
  unfold initO FV.wrong
  show callF 7 10 (mThen _ (mThen _ (mThen _ (mThen _ sets6)))) [.ref a, tS ns, v.f1, v.f2, v.f3, v.f4, v.f5] (s.new a (.obj "Rule" [])) = _
  simp [o1, o2, o3, o4, o5, e0, e1, e2, isi_pl hv.p3, e3, e4, e5]
  rw [il_cons]
  cases q1 : isI 1 ((ns.length : Int) - 1) v.f1 with
  | false => simp
  | true =>
    rw [if_pos rfl, if_pos rfl, il_cons]
    cases q2 : pairB 2 true v.f2 with
    | false => simp
    | true =>
      rw [if_pos rfl, if_pos rfl, il_cons]
      cases q3 : overB v.f3 with
      | false => simp
      | true =>
        rw [if_pos rfl, if_pos rfl, il_cons]
        cases q4 : pairB 1 false v.f4 with
        | false => simp
        | true =>
          rw [if_pos rfl, if_pos rfl, il_cons]
          cases q5 : orderB ns v.f5 with
          | false => simp
          | true =>
            rw [if_pos rfl, if_pos rfl, forF_nil]
            simp only [Out.bind_ok, thenK_nx]
            rw [sets6_eq rfl o1 o2 o3 o4 o5]
            simp [FV.O]
/-- what making a rule ends with -/
def mkO (s : Ds) (ns : Row) (v : FV) : Out D := match v.wrong ns with
  | none => .ok (v.O ns) s
  | some w => .exc "BadRule" [("place", .str w)] s
theorem mk_any (hg : GoodNames ns) (hv : FOk v) : mkP "Rule" c_Rule___init__ (tS ns :: v.l) s = mkO s ns v := by
  unfold mkP
  refine Out.fresh_eq fun a ha => ?_
  rw [init_any hg hv]
  unfold initO mkO
  cases v.wrong ns with
  | none =>
    rw [Out.bind2_ok, DL.get_new]
    show Out.ok (v.O ns) ((s.new a (v.O ns)).del a) = _
    rw [DL.del_new]
  | some w =>
    rw [Out.bind2_exc, DL.del_new]
theorem mk_names {k : Nat} {d d1 d2 d3 d4 d5 : D} (hd : Pl k d) (hw : wt d ≤ 1000) (hn : namesB d = false) : mkP "Rule" c_Rule___init__ [d, d1, d2, d3, d4, d5] s = .exc "BadNames" [("value", d)] s := by
  unfold mkP
  refine Out.fresh_eq fun a ha => ?_
  have e0 := fun s => need_names_any (s := s) hd hw
  rw [hn] at e0
  simp [c_Rule___init__, m_Rule___init__, own_pl hd, e0, DL.del_new]
theorem mkO_flow {ρ : DL.Env} : (((mkO s ns v).bind2 (fun c fs s => .ok (.ex c fs ρ) s) fun d s => .ok (.rt d) s : Out Fl).bindN flD) = mkO s ns v := by
  unfold mkO
  cases v.wrong ns <;> simp
theorem with_seats_eq {d : D} (hg : GoodNames ns) (hv : FOk { v with f1 := d }) (od : noOwn d = some d) : c_Rule_with_seats [v.O ns, d] s = mkO s ns { v with f1 := d } := by
  have e := mk_any (s := s) hg hv
  simp [c_Rule_with_seats, m_Rule_with_seats, v.ownO, od, v.g0, v.g2, v.g3, v.g4, v.g5]
  show ((mkP "Rule" c_Rule___init__ (tS ns :: (FV.l { v with f1 := d })) s).bind2 _ _).bindN flD = _
  rw [e, mkO_flow]
theorem with_quota_eq {d d' : D} (hg : GoodNames ns) (hv : FOk { v with f2 := d, f3 := d' }) (od : noOwn d = some d) (od' : noOwn d' = some d') : c_Rule_with_quota [v.O ns, d, d'] s = mkO s ns { v with f2 := d, f3 := d' } := by
  have e := mk_any (s := s) hg hv
  simp [c_Rule_with_quota, m_Rule_with_quota, v.ownO, od, od', v.g0, v.g1, v.g4, v.g5]
  show ((mkP "Rule" c_Rule___init__ (tS ns :: (FV.l { v with f2 := d, f3 := d' })) s).bind2 _ _).bindN flD = _
  rw [e, mkO_flow]
theorem with_hand_eq {d : D} (hg : GoodNames ns) (hv : FOk { v with f4 := d }) (od : noOwn d = some d) : c_Rule_with_hand [v.O ns, d] s = mkO s ns { v with f4 := d } := by
  have e := mk_any (s := s) hg hv
  simp [c_Rule_with_hand, m_Rule_with_hand, v.ownO, od, v.g0, v.g1, v.g2, v.g3, v.g5]
  show ((mkP "Rule" c_Rule___init__ (tS ns :: (FV.l { v with f4 := d })) s).bind2 _ _).bindN flD = _
  rw [e, mkO_flow]
theorem with_order_eq {d : D} (hg : GoodNames ns) (hv : FOk { v with f5 := d }) (od : noOwn d = some d) : c_Rule_with_order [v.O ns, d] s = mkO s ns { v with f5 := d } := by
  have e := mk_any (s := s) hg hv
  simp [c_Rule_with_order, m_Rule_with_order, v.ownO, od, v.g0, v.g1, v.g2, v.g3, v.g4]
  show ((mkP "Rule" c_Rule___init__ (tS ns :: (FV.l { v with f5 := d })) s).bind2 _ _).bindN flD = _
  rw [e, mkO_flow]
end
end V

set_option Elab.async false
set_option linter.all false
set_option maxRecDepth 100000
set_option maxHeartbeats 1000000
namespace DL
open PySem L2 PySem.W PyProof.Rows
/-- what the law is told of making a rule -/
def FV.told (ns : Row) (v : FV) : D := match v.wrong ns with
  | none => v.T ns
  | some w => .tup [.str "rule", .str w]
def wordsW : List Str := ["seats", "quota", "over", "hand", "order"]
theorem wrong_mem {ns : Row} {v : FV} {w : Str} (h : v.wrong ns = some w) : w ∈ wordsW := by
  unfold FV.wrong at h
  unfold wordsW
  split at h
  · split at h
    · split at h
      · split at h
        · split at h
          · cases h
          · cases h; simp
        · cases h; simp
      · cases h; simp
    · cases h; simp
  · cases h; simp
theorem words_small : ∀ w ∈ wordsW, (w.cps.toList.all fun c => decide (c < 127)) = true ∧ w.length ≤ 100 := by decide +kernel
theorem told_repr {ns : Row} {v : FV} (hg : GoodNames ns) (hv : FOk v) : ∃ t : Str, oRepr [v.told ns] = some (.str t) ∧ (D.str t).fit = true := by
  unfold FV.told
  cases q : v.wrong ns with
  | none =>
    have p1 : Pl 10 (v.T ns) := fun d hd => by
      rcases List.mem_cons.mp hd with rfl | hd
      · exact Pl.mono (k := 1) (n := 9) (by omega) (row_pl hg.words).pl
      · exact hv.p d hd
    have w1 : wt (v.T ns) ≤ 100000 := by
      have h1 := row_wt hg.words
      have h2 := wts_bound (m := 1000) (ds := v.l) hv.w
      have h3 : v.l.length = 5 := rfl
      rw [h3] at h2
      have h4 := hg.le
      show wts (tS ns :: v.l) + 3 ≤ 100000
      simp only [wts]; omega
    exact ⟨_, oRepr_pl (d := v.T ns) p1 (by omega) (by omega), fit_sc p1⟩
  | some w =>
    obtain ⟨h1, h2⟩ := words_small w (wrong_mem q)
    exact oRepr_two (x := "rule") (y := w) (lit_small (by decide +kernel)) (lit_small h1) (by decide +kernel) (by omega)
end DL
namespace V
open PySem L2 DL
section
variable {P : Addr} {q : Str} {mb : FE} {ρ : DL.Env} {s : Ds} {ns : Row} {v : FV}
theorem told_mk (hP : s.get P = some (.own (.str q))) (hv : FOk v) (h : mb ρ s = mkO s ns v) : mLam P q 3 m_law_told mb ρ s = .ok (v.told ns) s := by
  have e1 : exS "BadRule" "BadRule" = some true := by decide +kernel
  have e2 : attX "BadRule" "place" = true := by decide +kernel
  unfold mkO at h
  unfold FV.told
  unfold mLam
  rw [Out.iff_true hP]
  cases z : v.wrong ns with
  | none =>
    rw [z] at h
    simp [m_law_told, mTry, b_law_told1, mAct, h, Out.iff_true, v.ownO, v.g0, v.g1, v.g2, v.g3, v.g4, v.g5]
    rw [Out.anyA_const, Out.anyC_const]
    rfl
  | some w =>
    rw [z] at h
    simp [m_law_told, mTry, b_law_told1, mAct, h, Out.iff_true, mHds, e1, setC, mXf, xcgD, e2, flC, Out.anyA_const, Out.anyC_const]
theorem told_ok (hP : s.get P = some (.own (.str q))) (h : mb ρ s = .ok (v.O ns) s) : mLam P q 3 m_law_told mb ρ s = .ok (v.T ns) s := by
  unfold mLam
  rw [Out.iff_true hP]
  simp [m_law_told, mTry, b_law_told1, mAct, h, Out.iff_true, v.ownO, v.g0, v.g1, v.g2, v.g3, v.g4, v.g5]
  rw [Out.anyA_const, Out.anyC_const]
  rfl
theorem told_names {k : Nat} {d : D} (hP : s.get P = some (.own (.str q))) (h : mb ρ s = .exc "BadNames" [("value", d)] s) (hd : Pl k d) (hk : k ≤ 60) (hw : wt d ≤ 1000000) : mLam P q 3 m_law_told mb ρ s = .ok (.tup [.str "names", .str (mkS (sc d))]) s := by
  have e0 : exS "BadNames" "BadRule" = some false := by decide +kernel
  have e1 : exS "BadNames" "BadNames" = some true := by decide +kernel
  have e2 : attX "BadNames" "value" = true := by decide +kernel
  have e3 := own_pl hd
  have e4 := oRepr_pl hd hk hw
  unfold mLam
  rw [Out.iff_true hP]
  simp [m_law_told, mTry, b_law_told1, mAct, h, Out.iff_true, mHds, e0, e1, setC, mXf, xcgD, e2, e3, e4, flC, Out.anyA_const, Out.anyC_const]
end
/-! good rules -/
def RuleV.fv (r : RuleV) : FV := ⟨.int r.st, .tup [.int r.q0, .int r.q1], .bl r.ov, .tup [.int r.h0, .int r.h1], tS r.od⟩
theorem fv_T (r : RuleV) : (RuleV.fv r).T r.ns = r.tup := rfl
theorem fv_O (r : RuleV) : (RuleV.fv r).O r.ns = r.obj := rfl
end V
namespace DL
open PySem L2 PySem.W PyProof.Rows
structure FGood (ns : Row) (v : FV) : Prop where
  seats : ∃ i : Nat, v.f1 = .int i ∧ 1 ≤ i ∧ i + 1 ≤ ns.length
  quota : ∃ a b : Int, v.f2 = .tup [.int a, .int b] ∧ 1 ≤ a ∧ a + 1 ≤ b ∧ b ≤ 100
  over : ∃ b, v.f3 = .bl b
  hand : ∃ a b : Int, v.f4 = .tup [.int a, .int b] ∧ 0 ≤ a ∧ a ≤ b ∧ 1 ≤ b ∧ b ≤ 100
  order : ∃ o : Row, v.f5 = tS o ∧ o.Perm ns
theorem int_pl {k : Nat} {i : Int} (h : i.natAbs ≤ 1000) : Pl k (.int i) := by
  have : i.natAbs < 10 ^ 40 := Nat.lt_of_le_of_lt h (by decide)
  cases k <;> exact this
theorem pair_pl {k : Nat} {a b : Int} (ha : a.natAbs ≤ 1000) (hb : b.natAbs ≤ 1000) : Pl (k + 1) (.tup [.int a, .int b]) := fun d hd => by
  rcases List.mem_cons.mp hd with rfl | hd
  · exact int_pl ha
  · rw [List.mem_singleton.mp hd]; exact int_pl hb
theorem perm_words {ns o : Row} (hg : GoodNames ns) (h : o.Perm ns) : ∀ l ∈ o, IsWord l := fun l hl => hg.words l (h.subset hl)
theorem FGood.ok {ns : Row} {v : FV} (hg : GoodNames ns) (h : FGood ns v) : FOk v := by
  obtain ⟨⟨i, e1, i1, i2⟩, ⟨qa, qb, e2, q1, q2, q3⟩, ⟨b, e3⟩, ⟨ha, hb, e4, h1, h2, h3, h4⟩, ⟨o, e5, hp⟩⟩ := h
  have g4 := hg.le
  have lo := hp.length_eq
  have w5 := row_wt (perm_words hg hp)
  refine ⟨fun d hd => ?_, fun d hd => ?_⟩
  · simp only [FV.l, List.mem_cons, List.not_mem_nil, or_false] at hd
    rcases hd with rfl | rfl | rfl | rfl | rfl
    · rw [e1]; exact int_pl (by omega)
    · rw [e2]; exact pair_pl (by omega) (by omega)
    · rw [e3]; trivial
    · rw [e4]; exact pair_pl (by omega) (by omega)
    · rw [e5]; exact Pl.mono (k := 1) (n := 9) (by omega) (row_pl (perm_words hg hp)).pl
  · simp only [FV.l, List.mem_cons, List.not_mem_nil, or_false] at hd
    rcases hd with rfl | rfl | rfl | rfl | rfl
    · rw [e1]; exact (show 50 ≤ 1000 by decide)
    · rw [e2]; exact (show 50 + 2 + (50 + 2 + 0) + 3 ≤ 1000 by decide)
    · rw [e3]; exact (show 5 ≤ 1000 by decide)
    · rw [e4]; exact (show 50 + 2 + (50 + 2 + 0) + 3 ≤ 1000 by decide)
    · rw [e5]; omega
theorem FGood.none {ns : Row} {v : FV} (hg : GoodNames ns) (h : FGood ns v) : v.wrong ns = none := by
  obtain ⟨⟨i, e1, i1, i2⟩, ⟨qa, qb, e2, q1, q2, q3⟩, ⟨b, e3⟩, ⟨ha, hb, e4, h1, h2, h3, h4⟩, ⟨o, e5, hp⟩⟩ := h
  unfold FV.wrong
  have c1 : isI 1 ((ns.length : Int) - 1) v.f1 = true := by
    rw [e1]; show (decide ((1 : Int) ≤ (i : Int)) && decide ((i : Int) ≤ (ns.length : Int) - 1)) = true
    rw [decide_eq_true (by omega), decide_eq_true (by omega)]; rfl
  have c2 : pairB 2 true v.f2 = true := by
    rw [e2]; show (decide ((2 : Int) ≤ qb) && (decide (qb ≤ 100) && (decide ((2 : Int) - 1 ≤ qa) && decide (qa ≤ qb - 1)))) = true
    rw [decide_eq_true (by omega), decide_eq_true (by omega), decide_eq_true (by omega), decide_eq_true (by omega)]; rfl
  have c3 : overB v.f3 = true := by rw [e3]; rfl
  have c4 : pairB 1 false v.f4 = true := by
    rw [e4]; show (decide ((1 : Int) ≤ hb) && (decide (hb ≤ 100) && (decide ((1 : Int) - 1 ≤ ha) && decide (ha ≤ hb - 0)))) = true
    rw [decide_eq_true (by omega), decide_eq_true (by omega), decide_eq_true (by omega), decide_eq_true (by omega)]; rfl
  have c5 : orderB ns v.f5 = true := by rw [e5]; exact (orderB_strs (V.nodup_of_asc hg.asc)).mpr hp
  rw [if_pos c1, if_pos c2, if_pos c3, if_pos c4, if_pos c5]
theorem fitK_int {k : Nat} {i : Int} : FitK k (.int i) := ⟨rfl, rfl, Nat.zero_le _⟩
theorem fitK_bl {k : Nat} {b : Bool} : FitK k (.bl b) := ⟨rfl, rfl, Nat.zero_le _⟩
theorem fitK_pair {k : Nat} {a b : Int} : FitK (k + 1) (.tup [.int a, .int b]) := fitK_tup fun d hd => by
  rcases List.mem_cons.mp hd with rfl | hd
  · exact fitK_int
  · rw [List.mem_singleton.mp hd]; exact fitK_int
theorem fitK_row {k : Nat} {r : Row} (h : ∀ l ∈ r, IsWord l) : FitK (k + 1) (tS r) := fitK_tup fun d hd => by
  obtain ⟨l, hl, rfl⟩ := List.mem_map.mp hd
  exact fitK_str fun c hc => by have := (word_tx (h l hl) c hc).2.1; omega
theorem FGood.fitT {ns : Row} {v : FV} (hg : GoodNames ns) (h : FGood ns v) : FitK 2 (v.T ns) := by
  obtain ⟨⟨i, e1, i1, i2⟩, ⟨qa, qb, e2, q1, q2, q3⟩, ⟨b, e3⟩, ⟨ha, hb, e4, h1, h2, h3, h4⟩, ⟨o, e5, hp⟩⟩ := h
  refine fitK_tup (k := 1) fun d hd => ?_
  rcases List.mem_cons.mp hd with rfl | hd
  · exact fitK_row hg.words
  · simp only [FV.l, List.mem_cons, List.not_mem_nil, or_false] at hd
    rcases hd with rfl | rfl | rfl | rfl | rfl
    · rw [e1]; exact fitK_int
    · rw [e2]; exact fitK_pair
    · rw [e3]; exact fitK_bl
    · rw [e4]; exact fitK_pair
    · rw [e5]; exact fitK_row (perm_words hg hp)
theorem eq_T {neg : Bool} {ns : Row} {v u : FV} (hv : FitK 2 (v.T ns)) (hu : FitK 2 (u.T ns)) : oEqB neg (v.T ns) (u.T ns) = some (.bl ((v.T ns).eqv (u.T ns) != neg)) := by
  show (if (v.T ns).fit = true ∧ (u.T ns).fit = true then some (D.bl ((v.T ns).eqv (u.T ns) != neg)) else none) = _
  rw [if_pos ⟨hv.fit (by decide), hu.fit (by decide)⟩]
theorem eqv_T_comm (ns : Row) (v u : FV) : (v.T ns).eqv (u.T ns) = (u.T ns).eqv (v.T ns) := PySem.W.eqv_comm _ _
end DL
namespace V
open PySem L2 DL
theorem fv_good {r : RuleV} (h : GoodRule r) : FGood r.ns (RuleV.fv r) :=
  ⟨⟨r.st, rfl, h.st0, h.st1⟩, ⟨r.q0, r.q1, rfl, h.qa, h.qb, h.qd⟩, ⟨r.ov, rfl⟩, ⟨r.h0, r.h1, rfl, h.ha, h.hb, h.hc, h.hd⟩, ⟨r.od, rfl, h.ord⟩⟩
section
variable {s : Ds} {ns : Row} {v u : FV}
theorem fields_eq (hv : FOk v) : c_Rule_fields [v.O ns] s = .ok (v.T ns) s := by
  simp [c_Rule_fields, m_Rule_fields, v.ownO, v.g0, v.g1, v.g2, v.g3, v.g4, v.g5]; rfl
theorem isi_OO : fIsiS isiS [v.O ns, .cls "Rule"] s = .ok (.bl true) s := rfl
theorem isi_OT : fIsiS isiS [v.T ns, .cls "Rule"] s = .ok (.bl false) s := rfl
theorem met_O : metD "Rule" "fields" s (v.O ns) = true := rfl
theorem met_eq : metD "Rule" "__eq__" s (v.O ns) = true := rfl
theorem arg_O : eqArg "Rule" s (v.O ns) = true := rfl
theorem arg_T : eqArg "Rule" s (v.T ns) = true := rfl
theorem eq_OO (hg : GoodNames ns) (hv : FGood ns v) (hu : FGood ns u) : c_Rule___eq__ [v.O ns, u.O ns] s = .ok (.bl ((v.T ns).eqv (u.T ns))) s := by
  have e1 := fields_eq (s := s) (ns := ns) (hv.ok hg)
  have e2 := fields_eq (s := s) (ns := ns) (hu.ok hg)
  have e3 := eq_T (neg := false) (hv.fitT hg) (hu.fitT hg)
  simp [c_Rule___eq__, m_Rule___eq__, v.ownO, u.ownO, isi_OO, met_O, e1, e2, e3]
theorem eq_OT : c_Rule___eq__ [v.O ns, u.T ns] s = .ok (.bl false) s := by
  simp [c_Rule___eq__, m_Rule___eq__, v.ownO, u.own, isi_OT]
end
end V

set_option Elab.async false
set_option linter.all false
set_option maxRecDepth 100000
set_option maxHeartbeats 1000000
namespace DL
open PySem L2 PySem.W PyProof.Rows
theorem oMul_ij {i j : Int} (h0 : -1000000 ≤ j) (h1 : j ≤ 1000000) : oMul' (.int i) (.int j) = some (.int (i * j)) := by
  have h : mulOk i j = true := by
    unfold mulOk
    have : j.natAbs < 2 ^ 64 := Nat.lt_of_le_of_lt (show j.natAbs ≤ 1000000 by omega) (by decide)
    simp only [this, decide_true, Bool.or_true]
  unfold oMul'
  simp only [h, if_true]
def FV.set (v : FV) (i : Nat) (d : D) : FV := match i with
  | 1 => { v with f1 := d }
  | 2 => { v with f2 := d }
  | 3 => { v with f3 := d }
  | 4 => { v with f4 := d }
  | _ => { v with f5 := d }
def FV.get (v : FV) (i : Nat) : D := match i with
  | 1 => v.f1
  | 2 => v.f2
  | 3 => v.f3
  | 4 => v.f4
  | _ => v.f5
structure FN (b k W : Nat) (v : FV) : Prop where
  p : ∀ d ∈ v.l, Pn b k d
  w : ∀ d ∈ v.l, wt d ≤ W
theorem FN.ok {b k W : Nat} {v : FV} (h : FN b k W v) (hb : b < 10 ^ 40) (hk : k ≤ 9) (hW : W ≤ 1000) : FOk v := ⟨fun d hd => ((h.p d hd).pl hb).mono hk, fun d hd => Nat.le_trans (h.w d hd) hW⟩
theorem FN.mono {b k W b' k' W' : Nat} {v : FV} (h : FN b k W v) (hb : b ≤ b') (hk : k ≤ k') (hW : W ≤ W') : FN b' k' W' v := ⟨fun d hd => (h.p d hd).mono hb hk, fun d hd => Nat.le_trans (h.w d hd) hW⟩
theorem FN.get {b k W : Nat} {v : FV} (h : FN b k W v) {i : Nat} : Pn b k (v.get i) ∧ wt (v.get i) ≤ W := by
  have : v.get i ∈ v.l := by unfold FV.get FV.l; split <;> simp
  exact ⟨h.p _ this, h.w _ this⟩
theorem FN.set {b k W : Nat} {v : FV} (h : FN b k W v) {i : Nat} {d : D} (hp : Pn b k d) (hw : wt d ≤ W) : FN b k W (v.set i d) := by
  obtain ⟨h1, h2⟩ := h
  unfold FV.l at h1 h2
  simp only [List.mem_cons, List.not_mem_nil, or_false, forall_eq_or_imp, forall_eq] at h1 h2
  obtain ⟨p1, p2, p3, p4, p5⟩ := h1
  obtain ⟨w1, w2, w3, w4, w5⟩ := h2
  unfold FV.set
  split <;> (refine ⟨fun e he => ?_, fun e he => ?_⟩ <;> (simp only [FV.l, List.mem_cons, List.not_mem_nil, or_false] at he; rcases he with rfl | rfl | rfl | rfl | rfl <;> assumption))
theorem int_pn {b k : Nat} {i : Int} (h : i.natAbs ≤ 1000) (hb : 10 ^ 30 ≤ b) : Pn b k (.int i) := by
  have : i.natAbs ≤ b := Nat.le_trans h (Nat.le_trans (by decide) hb)
  cases k <;> exact this
theorem FGood.fn {ns : Row} {v : FV} {b : Nat} (hg : GoodNames ns) (hb : 10 ^ 30 ≤ b) (h : FGood ns v) : FN b 1 110 v := by
  obtain ⟨⟨i, e1, i1, i2⟩, ⟨qa, qb, e2, q1, q2, q3⟩, ⟨bb, e3⟩, ⟨ha, hb', e4, h1, h2, h3, h4⟩, ⟨o, e5, hp⟩⟩ := h
  have g4 := hg.le
  have lo := hp.length_eq
  have w5 := row_wt (perm_words hg hp)
  refine ⟨fun d hd => ?_, fun d hd => ?_⟩
  · simp only [FV.l, List.mem_cons, List.not_mem_nil, or_false] at hd
    rcases hd with rfl | rfl | rfl | rfl | rfl
    · rw [e1]; exact int_pn (by omega) hb
    · rw [e2]
      intro d hd
      rcases List.mem_cons.mp hd with rfl | hd
      · exact int_pn (by omega) hb
      · rw [List.mem_singleton.mp hd]; exact int_pn (by omega) hb
    · rw [e3]; trivial
    · rw [e4]
      intro d hd
      rcases List.mem_cons.mp hd with rfl | hd
      · exact int_pn (by omega) hb
      · rw [List.mem_singleton.mp hd]; exact int_pn (by omega) hb
    · rw [e5]; exact (row_pl (perm_words hg hp)).pn
  · simp only [FV.l, List.mem_cons, List.not_mem_nil, or_false] at hd
    rcases hd with rfl | rfl | rfl | rfl | rfl
    · rw [e1]; exact (show 50 ≤ 110 by decide)
    · rw [e2]; exact (show 50 + 2 + (50 + 2 + 0) + 3 ≤ 110 by decide)
    · rw [e3]; exact (show 5 ≤ 110 by decide)
    · rw [e4]; exact (show 50 + 2 + (50 + 2 + 0) + 3 ≤ 110 by decide)
    · rw [e5]; omega
end DL
namespace V
open PySem L2 DL
section
variable {s : Ds} {ns : Row} {v : FV}
theorem units_loop {a b : Int} (h4 : v.f4 = .tup [.int a, .int b]) (hb0 : -1000000 ≤ b) (hb1 : b ≤ 1000000) : ∀ (ds : List D) (x : Int) (v2 : Option D), ∃ v2', forF (ogName 2) b_units1 ds [some (v.O ns), some (.int x), v2] s = .ok (.nx [some (v.O ns), some (.int (x * b ^ ds.length)), v2']) s
  | [], x, v2 => ⟨v2, by simp⟩
  | d :: r, x, v2 => by
    obtain ⟨v2', e⟩ := units_loop h4 hb0 hb1 r (x * b) (some d)
    refine ⟨v2', ?_⟩
    have g4 := v.g4 ns s
    rw [h4] at g4
    rw [forF_cons, ogName_r, optO_some, Out.bind_ok]
    simp only [List.set_cons_succ, List.set_cons_zero]
    have eb : b_units1 [some (v.O ns), some (.int x), some d] s = .ok (.nx [some (v.O ns), some (.int (x * b)), some d]) s := by
      simp [b_units1, v.ownO, g4, oMul_ij hb0 hb1]
    rw [eb, Out.bind_ok, forK_nx, e, List.length_cons, Int.mul_assoc, ← Int.pow_succ']
theorem law_units_loop {a b : Int} (h4 : v.f4 = .tup [.int a, .int b]) (hb0 : -1000000 ≤ b) (hb1 : b ≤ 1000000) : ∀ (ds : List D) (x : Int) (v2 : Option D), ∃ v2', forF (ogName 2) b_law_units1 ds [some (v.T ns), some (.int x), v2] s = .ok (.nx [some (v.T ns), some (.int (x * b ^ ds.length)), v2']) s
  | [], x, v2 => ⟨v2, by simp⟩
  | d :: r, x, v2 => by
    obtain ⟨v2', e⟩ := law_units_loop h4 hb0 hb1 r (x * b) (some d)
    refine ⟨v2', ?_⟩
    have g4 := v.ix4 ns
    rw [h4] at g4
    rw [forF_cons, ogName_r, optO_some, Out.bind_ok]
    simp only [List.set_cons_succ, List.set_cons_zero]
    have eb : b_law_units1 [some (v.T ns), some (.int x), some d] s = .ok (.nx [some (v.T ns), some (.int (x * b)), some d]) s := by
      simp [b_law_units1, v.own, g4, oMul_ij hb0 hb1]
    rw [eb, Out.bind_ok, forK_nx, e, List.length_cons, Int.mul_assoc, ← Int.pow_succ']
theorem units_both (hg : GoodNames ns) (h : FGood ns v) : ∃ x : Int, c_units [v.O ns] s = .ok (.int x) s ∧ c_law_units [v.T ns] s = .ok (.int x) s := by
  obtain ⟨⟨i, e1, i1, i2⟩, _, _, ⟨ha, hb, e4, h1, h2, h3, h4⟩, _⟩ := h
  have g4 := hg.le
  have g1 := v.g1 ns s
  have x1 := v.ix1 ns
  rw [e1] at g1 x1
  obtain ⟨w2, l1⟩ := units_loop (s := s) (ns := ns) (v := v) e4 (by omega) (by omega) ((List.range i).map fun j : Nat => .int (j : Int)) 1 none
  obtain ⟨w3, l2⟩ := law_units_loop (s := s) (ns := ns) (v := v) e4 (by omega) (by omega) ((List.range i).map fun j : Nat => .int (j : Int)) 1 none
  refine ⟨1 * hb ^ ((List.range i).map fun j : Nat => D.int (j : Int)).length, ?_, ?_⟩
  · simp [c_units, m_units, v.ownO, g1, oRange1_nat (n := i) (by omega)]
    rw [l1]; simp
  · simp [c_law_units, m_law_units, v.own, x1, oRange1_nat (n := i) (by omega)]
    rw [l2]; simp
end
end V

set_option Elab.async false
set_option linter.all false
set_option maxRecDepth 100000
set_option maxHeartbeats 1000000
namespace DL
open PySem L2 PySem.W PyProof.Rows
theorem at5 {i : Nat} (h1 : 1 ≤ i) (h5 : i ≤ 5) : i = 1 ∨ i = 2 ∨ i = 3 ∨ i = 4 ∨ i = 5 := by omega
theorem FV.ixi {ns : Row} {v : FV} {i : Nat} (h1 : 1 ≤ i) (h5 : i ≤ 5) : oIx' (v.T ns) (.int (i : Int)) = some (v.get i) := by
  rcases at5 h1 h5 with rfl | rfl | rfl | rfl | rfl <;> rfl
/-- the table's own thing at a place -/
def nearC (n0 : D) (i : Nat) : D := match i with
  | 1 => .int 1
  | 2 => .tup [.int 2, .int 2]
  | 3 => .int 0
  | 4 => .tup [.int 1, .int 0]
  | _ => .tup [n0, n0]
theorem nearC_ix {n0 : D} {i : Nat} (h1 : 1 ≤ i) (h5 : i ≤ 5) : oIx' (.lst [.int 1, .tup [.int 2, .int 2], .int 0, .tup [.int 1, .int 0], .tup [n0, n0]]) (.int ((i : Int) - 1)) = some (nearC n0 i) := by
  rcases at5 h1 h5 with rfl | rfl | rfl | rfl | rfl <;> rfl
theorem nearC_ok {b k : Nat} {l : List Nat} {i : Nat} (hb : 10 ^ 30 ≤ b) (hk : 1 ≤ k) (hl : IsWord l) : Pn b k (nearC (sD l) i) ∧ wt (nearC (sD l) i) ≤ 110 := by
  obtain ⟨k, rfl⟩ : ∃ m, k = m + 1 := ⟨k - 1, by omega⟩
  have wl := word_wt hl
  have pl : Pn b k (sD l) := by cases k <;> exact word_tx hl
  unfold nearC
  split
  · exact ⟨int_pn (by decide) hb, show 50 ≤ 110 by decide⟩
  · exact ⟨fun d hd => by
      have : d = .int 2 := by simpa using hd
      rw [this]; exact int_pn (by decide) hb, show 50 + 2 + (50 + 2 + 0) + 3 ≤ 110 by decide⟩
  · exact ⟨int_pn (by decide) hb, show 50 ≤ 110 by decide⟩
  · exact ⟨fun d hd => by
      rcases List.mem_cons.mp hd with rfl | hd
      · exact int_pn (by decide) hb
      · rw [List.mem_singleton.mp hd]; exact int_pn (by decide) hb, show 50 + 2 + (50 + 2 + 0) + 3 ≤ 110 by decide⟩
  · exact ⟨fun d hd => by
      have : d = sD l := by simpa using hd
      rw [this]; exact pl, by show wt (sD l) + 2 + (wt (sD l) + 2 + 0) + 3 ≤ 110; omega⟩
theorem FV.cuts {ns : Row} {v : FV} {i : Nat} {d : D} (h1 : 1 ≤ i) (h5 : i ≤ 5) : ∃ a b : List D, oCut (v.T ns) none (some (i : Int)) = some (.tup a) ∧ oCut (v.T ns) (some ((i : Int) + 1)) none = some (.tup b) ∧ a.length ≤ 6 ∧ b.length ≤ 6 ∧ D.tup (a ++ d :: b) = (v.set i d).T ns := by
  refine ⟨(tS ns :: v.l).take i, (tS ns :: v.l).drop (i + 1), cut_tup_to _ i, ?_, ?_, ?_, ?_⟩
  · have := cut_tup_from (tS ns :: v.l) (i + 1)
    rw [show ((i + 1 : Nat) : Int) = (i : Int) + 1 by omega] at this
    exact this
  · rw [List.length_take]; exact Nat.min_le_right _ _
  · rw [List.length_drop]; exact Nat.sub_le _ _
  · rcases at5 h1 h5 with rfl | rfl | rfl | rfl | rfl <;> rfl
end DL
namespace V
open PySem L2 DL
theorem near_post {a : Addr} {n : Int} {ob : List (Addr × D)} {ns : Row} {v : FV} {b k W i : Nat} {Q : D → Ds → Prop} {E : Str → List (Str × D) → Ds → Prop} (hg : GoodNames ns) (hv : FN b k W v) (hb : 10 ^ 30 ≤ b) (hb2 : b + 10 < 10 ^ 40) (hk1 : 1 ≤ k) (hk : k ≤ 5) (hW : W ≤ 400) (hW0 : 50 ≤ W) (h1 : 1 ≤ i) (h5 : i ≤ 5) (hn : n + 100 ≤ 10 ^ 15)
    (h : ∀ d j, 0 ≤ j → j ≤ 30 → Pn (b + 10) (k + 3) d → wt d ≤ 2 * W + 70 → Q ((v.set i d).T ns) ⟨some (a, n + j), ob⟩) : (c_law_near [.ref a, v.T ns, .int (i : Int)] ⟨some (a, n), ob⟩).post Q E := by
  have h2 := hg.ge
  have hx0 : oCut (tS ns) none (some 1) = some (.tup [sD ns[0]]) := by
    have := cut_tup_to (ns.map sD) 1
    have e : (ns.map sD).take 1 = [sD ns[0]] := by
      cases ns with
      | nil => simp at h2
      | cons x r => rfl
    rw [e] at this; exact this
  have hw0 : IsWord ns[0] := hg.words _ (List.getElem_mem _)
  have hm2 : oMul' (.tup [sD ns[0]]) (.int 2) = some (.tup [sD ns[0], sD ns[0]]) := mul2_tup
  have hi : ((i : Nat) : Int) - 1 = (i : Int) - 1 := rfl
  obtain ⟨gp, gw⟩ := hv.get (i := i)
  simp [c_law_near, m_law_near]
  refine oddN_post hb (by omega) fun d1 p1 w1 => ?_
  have x0 : oIx' (v.T ns) (.int 0) = some (tS ns) := rfl
  simp [v.own, FV.ixi h1 h5]
  refine bentN_post hb k 6 (v.get i) _ _ _ (by omega) gp (by omega) (by omega) fun d2 j2 j20 j21 p2 w2 => ?_
  simp [v.own, x0, hx0, hm2, nearC_ix h1 h5]
  refine next_post (by omega) (by omega) (by omega) fun r r0 r1 => ?_
  obtain ⟨d, e, hp, hw⟩ := ix_all (xs := [d1, d2, nearC (sD ns[0]) i]) (fun d => Pn (b + 10) (k + 3) d ∧ wt d ≤ 2 * W + 70) r0 (by simpa using r1) (by
    intro d hd
    simp only [List.mem_cons, List.not_mem_nil, or_false] at hd
    rcases hd with rfl | rfl | rfl
    · exact ⟨p1.mono (by omega) (by omega), by omega⟩
    · exact ⟨p2, by omega⟩
    · obtain ⟨q1, q2⟩ := nearC_ok (b := b + 10) (k := k + 3) (i := i) (by omega) (by omega) hw0
      exact ⟨q1, by omega⟩)
  rw [e]
  have od : noOwn d = some d := own_pl (hp.pl (b := b + 10) hb2)
  obtain ⟨xa, xb, ca, cb, la, lb, ct⟩ := FV.cuts (ns := ns) (v := v) (i := i) (d := d) h1 h5
  simp [v.own, ca, cb, od]
  rw [DL.add_tup (by simp; omega)]
  simp
  rw [DL.add_tup (by simp; omega)]
  simp
  rw [ct, show n + 1 + j2 + 1 = n + (1 + j2 + 1) by omega]
  exact h d _ (by omega) (by omega) hp hw
section
variable {tb : Str → Addr} {s : Ds} {ns : Row} {v : FV}
/-- what is due, by the law's own look -/
theorem due_eq {m1 m3 : FE} {ρ : DL.Env} (e1 : m1 ρ s = .ok (v.T ns) s) (e3 : m3 ρ s = .ok (optS (v.wrong ns)) s) : (mIf (mTest (mBin oIsN m3 (mC .non))) m1 (mTup (mCons (mC (.str "rule")) (mCons m3 mNil)))) ρ s = .ok (v.told ns) s := by
  unfold FV.told
  cases z : v.wrong ns with
  | none =>
    rw [z] at e3
    simp [e1, e3, optS, DL.isNon]
  | some w =>
    rw [z] at e3
    simp [e3, optS, DL.isNon]
theorem optS_own (o : Option Str) : noOwn (optS o) = some (optS o) := by cases o <;> rfl
theorem lt4 {i j : Int} : oLt' (.int i) (.int j) = some (.bl (decide (i < j))) := rfl
theorem with_right1 {d : D} (hP : s.get (tb "_law_with_right") = some (.own (.str "_law_with_right.<locals>.<lambda>"))) (hg : GoodNames ns) (hd : FOk (v.set 1 d)) (od : noOwn d = some d) {v2 v3 v4 : Option D} :
    mLam (tb "_law_with_right") "_law_with_right.<locals>.<lambda>" 3 m_law_told (mMeth "Rule" "with_seats" c_Rule_with_seats (mVar 0) (mCons (mBin oIx' (mVar 1) (mC (.int 1))) mNil)) [some (v.O ns), some ((v.set 1 d).T ns), v2, v3, v4] s = .ok ((v.set 1 d).told ns) s := by
  refine told_mk hP hd ?_
  have ix : oIx' ((v.set 1 d).T ns) (.int 1) = some d := rfl
  have mt : metD "Rule" "with_seats" s (v.O ns) = true := rfl
  rw [mMeth_r, mVar_r]
  simp only [List.getElem?_cons_zero, v.ownO, optO_some, Out.bind_ok, mt, if_true, mCons_r, mBin_r, mVar_r, List.getElem?_cons_succ, FV.own, mC_r, ix, mNil_r]
  exact with_seats_eq hg hd od
theorem with_right2 {d : D} (hP : s.get (tb "_law_with_right") = some (.own (.str "_law_with_right.<locals>.<lambda>"))) (hg : GoodNames ns) (hv : FOk v) (hd : FOk (v.set 2 d)) (od : noOwn d = some d) {v2 v3 v4 : Option D} :
    mLam (tb "_law_with_right") "_law_with_right.<locals>.<lambda>" 3 m_law_told (mMeth "Rule" "with_quota" c_Rule_with_quota (mVar 0) (mCons (mBin oIx' (mVar 1) (mC (.int 2))) (mCons (mBin oIx' (mVar 1) (mC (.int 3))) mNil))) [some (v.O ns), some ((v.set 2 d).T ns), v2, v3, v4] s = .ok ((v.set 2 d).told ns) s := by
  refine told_mk hP hd ?_
  have ix2 : oIx' ((v.set 2 d).T ns) (.int 2) = some d := rfl
  have ix3 : oIx' ((v.set 2 d).T ns) (.int 3) = some v.f3 := rfl
  have mt : metD "Rule" "with_quota" s (v.O ns) = true := rfl
  rw [mMeth_r, mVar_r]
  simp only [List.getElem?_cons_zero, v.ownO, optO_some, Out.bind_ok, mt, if_true, mCons_r, mBin_r, mVar_r, List.getElem?_cons_succ, FV.own, mC_r, ix2, ix3, mNil_r]
  exact with_quota_eq hg hd od (own_pl hv.p3)
theorem with_right3 {d : D} (hP : s.get (tb "_law_with_right") = some (.own (.str "_law_with_right.<locals>.<lambda>"))) (hg : GoodNames ns) (hv : FOk v) (hd : FOk (v.set 3 d)) (od : noOwn d = some d) {v2 v3 v4 : Option D} :
    mLam (tb "_law_with_right") "_law_with_right.<locals>.<lambda>" 3 m_law_told (mMeth "Rule" "with_quota" c_Rule_with_quota (mVar 0) (mCons (mBin oIx' (mVar 1) (mC (.int 2))) (mCons (mBin oIx' (mVar 1) (mC (.int 3))) mNil))) [some (v.O ns), some ((v.set 3 d).T ns), v2, v3, v4] s = .ok ((v.set 3 d).told ns) s := by
  refine told_mk hP hd ?_
  have ix2 : oIx' ((v.set 3 d).T ns) (.int 2) = some v.f2 := rfl
  have ix3 : oIx' ((v.set 3 d).T ns) (.int 3) = some d := rfl
  have mt : metD "Rule" "with_quota" s (v.O ns) = true := rfl
  rw [mMeth_r, mVar_r]
  simp only [List.getElem?_cons_zero, v.ownO, optO_some, Out.bind_ok, mt, if_true, mCons_r, mBin_r, mVar_r, List.getElem?_cons_succ, FV.own, mC_r, ix2, ix3, mNil_r]
  exact with_quota_eq hg hd (own_pl hv.p2) od
theorem with_right4 {d : D} (hP : s.get (tb "_law_with_right") = some (.own (.str "_law_with_right.<locals>.<lambda>"))) (hg : GoodNames ns) (hv : FOk v) (hd : FOk (v.set 4 d)) (od : noOwn d = some d) {v2 v3 v4 : Option D} :
    mLam (tb "_law_with_right") "_law_with_right.<locals>.<lambda>" 3 m_law_told (mMeth "Rule" "with_hand" c_Rule_with_hand (mVar 0) (mCons (mBin oIx' (mVar 1) (mC (.int 4))) mNil)) [some (v.O ns), some ((v.set 4 d).T ns), v2, v3, v4] s = .ok ((v.set 4 d).told ns) s := by
  refine told_mk hP hd ?_
  have ix4 : oIx' ((v.set 4 d).T ns) (.int 4) = some d := rfl
  have mt : metD "Rule" "with_hand" s (v.O ns) = true := rfl
  rw [mMeth_r, mVar_r]
  simp only [List.getElem?_cons_zero, v.ownO, optO_some, Out.bind_ok, mt, if_true, mCons_r, mBin_r, mVar_r, List.getElem?_cons_succ, FV.own, mC_r, ix4, mNil_r]
  exact with_hand_eq hg hd od
theorem with_right5 {d : D} (hP : s.get (tb "_law_with_right") = some (.own (.str "_law_with_right.<locals>.<lambda>"))) (hg : GoodNames ns) (hv : FOk v) (hd : FOk (v.set 5 d)) (od : noOwn d = some d) {v2 v3 v4 : Option D} :
    mLam (tb "_law_with_right") "_law_with_right.<locals>.<lambda>" 3 m_law_told (mMeth "Rule" "with_order" c_Rule_with_order (mVar 0) (mCons (mBin oIx' (mVar 1) (mC (.int 5))) mNil)) [some (v.O ns), some ((v.set 5 d).T ns), v2, v3, v4] s = .ok ((v.set 5 d).told ns) s := by
  refine told_mk hP hd ?_
  have ix5 : oIx' ((v.set 5 d).T ns) (.int 5) = some d := rfl
  have mt : metD "Rule" "with_order" s (v.O ns) = true := rfl
  rw [mMeth_r, mVar_r]
  simp only [List.getElem?_cons_zero, v.ownO, optO_some, Out.bind_ok, mt, if_true, mCons_r, mBin_r, mVar_r, List.getElem?_cons_succ, FV.own, mC_r, ix5, mNil_r]
  exact with_order_eq hg hd od
def wrTail (tb : Str → Addr) : FX := (mThen (mIfS (mTest (mBin oEq' (mVar 2) (mC (.int 1)))) (mRet (mBin oEq' (mCB oRepr (mCons (mLam (tb "_law_with_right") "_law_with_right.<locals>.<lambda>" 3 m_law_told (mMeth "Rule" "with_seats" c_Rule_with_seats (mVar 0) (mCons (mBin oIx' (mVar 1) (mC (.int 1))) mNil))) mNil)) (mVar 4))) mNext) (mThen (mIfS (mTest (mBin oLt' (mVar 2) (mC (.int 4)))) (mRet (mBin oEq' (mCB oRepr (mCons (mLam (tb "_law_with_right") "_law_with_right.<locals>.<lambda>" 3 m_law_told (mMeth "Rule" "with_quota" c_Rule_with_quota (mVar 0) (mCons (mBin oIx' (mVar 1) (mC (.int 2))) (mCons (mBin oIx' (mVar 1) (mC (.int 3))) mNil)))) mNil)) (mVar 4))) mNext) (mThen (mIfS (mTest (mBin oEq' (mVar 2) (mC (.int 4)))) (mRet (mBin oEq' (mCB oRepr (mCons (mLam (tb "_law_with_right") "_law_with_right.<locals>.<lambda>" 3 m_law_told (mMeth "Rule" "with_hand" c_Rule_with_hand (mVar 0) (mCons (mBin oIx' (mVar 1) (mC (.int 4))) mNil))) mNil)) (mVar 4))) mNext) (mRet (mBin oEq' (mCB oRepr (mCons (mLam (tb "_law_with_right") "_law_with_right.<locals>.<lambda>" 3 m_law_told (mMeth "Rule" "with_order" c_Rule_with_order (mVar 0) (mCons (mBin oIx' (mVar 1) (mC (.int 5))) mNil))) mNil)) (mVar 4))))))
theorem wr_eq : m_law_with_right tb = mThen (mSet 3 (mCall (c_law_wrong) (mCons (mVar 1) mNil))) (mThen (mSet 4 (mCB oRepr (mCons (mIf (mTest (mBin oIsN (mVar 3) (mC .non))) (mVar 1) (mTup (mCons (mC (.str "rule")) (mCons (mVar 3) mNil)))) mNil))) (wrTail tb)) := rfl
theorem ret_t {L : FE} {t : Str} {a0 a1 a2 a3 : Option D} {x : D} (hL : L [a0, a1, a2, a3, some (.str t)] s = .ok x s) (r1 : oRepr [x] = some (.str t)) (r2 : (D.str t).fit = true) : mRet (mBin oEq' (mCB oRepr (mCons L mNil)) (mVar 4)) [a0, a1, a2, a3, some (.str t)] s = .ok (.rt (.bl true)) s := by
  rw [mRet_r, mBin_r, mCB_r, mCons_r, hL]
  simp only [Out.bind_ok, mNil_r, r1, optO_some, mVar_r, List.getElem?_cons_succ, List.getElem?_cons_zero, noOwn_str, oEqB_same r2, Bool.not_false, Out.bind2_ok]
theorem ifs_eq {i k : Nat} {m : FX} {a0 a1 a3 a4 : Option D} : mIfS (mTest (mBin oEq' (mVar 2) (mC (.int (k : Int))))) m mNext [a0, a1, some (.int (i : Int)), a3, a4] s = if i = k then m [a0, a1, some (.int (i : Int)), a3, a4] s else .ok (.nx [a0, a1, some (.int (i : Int)), a3, a4]) s := by
  have e : decide ((i : Int) = (k : Int)) = decide (i = k) := decide_eq_decide.mpr (by omega)
  rw [mIfS_r, mTest_r, mBin_r, mVar_r]
  simp only [List.getElem?_cons_succ, List.getElem?_cons_zero, noOwn_int, optO_some, Out.bind_ok, mC_r, oEq_ii, tbl_r, Out.bind2_ok, e, decide_eq_true_eq, mNext_r]
theorem ifs_lt {i k : Nat} {m : FX} {a0 a1 a3 a4 : Option D} : mIfS (mTest (mBin oLt' (mVar 2) (mC (.int (k : Int))))) m mNext [a0, a1, some (.int (i : Int)), a3, a4] s = if i < k then m [a0, a1, some (.int (i : Int)), a3, a4] s else .ok (.nx [a0, a1, some (.int (i : Int)), a3, a4]) s := by
  have e : decide ((i : Int) < (k : Int)) = decide (i < k) := decide_eq_decide.mpr (by omega)
  rw [mIfS_r, mTest_r, mBin_r, mVar_r]
  simp only [List.getElem?_cons_succ, List.getElem?_cons_zero, noOwn_int, optO_some, Out.bind_ok, mC_r, oLt_ii, tbl_r, Out.bind2_ok, e, decide_eq_true_eq, mNext_r]
theorem wr_tail {i : Nat} {d : D} {t : Str} {a3 : Option D} (hP : s.get (tb "_law_with_right") = some (.own (.str "_law_with_right.<locals>.<lambda>"))) (hg : GoodNames ns) (hv : FOk v) (hd : FOk (v.set i d)) (od : noOwn d = some d) (h1 : 1 ≤ i) (h5 : i ≤ 5) (r1 : oRepr [(v.set i d).told ns] = some (.str t)) (r2 : (D.str t).fit = true) :
    wrTail tb [some (v.O ns), some ((v.set i d).T ns), some (.int (i : Int)), a3, some (.str t)] s = .ok (.rt (.bl true)) s := by
  unfold wrTail
  rw [mThen_r]
  rw [show (mIfS (mTest (mBin oEq' (mVar 2) (mC (.int 1))))) = (mIfS (mTest (mBin oEq' (mVar 2) (mC (.int ((1 : Nat) : Int)))))) from rfl, ifs_eq]
  rcases at5 h1 h5 with rfl | rfl | rfl | rfl | rfl
  · rw [if_pos rfl, ret_t (with_right1 hP hg hd od) r1 r2, Out.bind_ok, thenK_rt]
  · rw [if_neg (by decide), Out.bind_ok, thenK_nx, mThen_r, show (mIfS (mTest (mBin oLt' (mVar 2) (mC (.int 4))))) = (mIfS (mTest (mBin oLt' (mVar 2) (mC (.int ((4 : Nat) : Int)))))) from rfl, ifs_lt, if_pos (by decide), ret_t (with_right2 hP hg hv hd od) r1 r2, Out.bind_ok, thenK_rt]
  · rw [if_neg (by decide), Out.bind_ok, thenK_nx, mThen_r, show (mIfS (mTest (mBin oLt' (mVar 2) (mC (.int 4))))) = (mIfS (mTest (mBin oLt' (mVar 2) (mC (.int ((4 : Nat) : Int)))))) from rfl, ifs_lt, if_pos (by decide), ret_t (with_right3 hP hg hv hd od) r1 r2, Out.bind_ok, thenK_rt]
  · rw [if_neg (by decide), Out.bind_ok, thenK_nx, mThen_r, show (mIfS (mTest (mBin oLt' (mVar 2) (mC (.int 4))))) = (mIfS (mTest (mBin oLt' (mVar 2) (mC (.int ((4 : Nat) : Int)))))) from rfl, ifs_lt, if_neg (by decide), Out.bind_ok, thenK_nx, mThen_r, show (mIfS (mTest (mBin oEq' (mVar 2) (mC (.int 4))))) = (mIfS (mTest (mBin oEq' (mVar 2) (mC (.int ((4 : Nat) : Int)))))) from rfl, ifs_eq, if_pos rfl, ret_t (with_right4 hP hg hv hd od) r1 r2, Out.bind_ok, thenK_rt]
  · rw [if_neg (by decide), Out.bind_ok, thenK_nx, mThen_r, show (mIfS (mTest (mBin oLt' (mVar 2) (mC (.int 4))))) = (mIfS (mTest (mBin oLt' (mVar 2) (mC (.int ((4 : Nat) : Int)))))) from rfl, ifs_lt, if_neg (by decide), Out.bind_ok, thenK_nx, mThen_r, show (mIfS (mTest (mBin oEq' (mVar 2) (mC (.int 4))))) = (mIfS (mTest (mBin oEq' (mVar 2) (mC (.int ((4 : Nat) : Int)))))) from rfl, ifs_eq, if_neg (by decide), Out.bind_ok, thenK_nx, ret_t (with_right5 hP hg hv hd od) r1 r2]
theorem then_set {m : FE} {u : FX} {ρ : DL.Env} {x : D} {i : Nat} (h : m ρ s = .ok x s) : mThen (mSet i m) u ρ s = u (ρ.set i (some x)) s := by
  rw [mThen_r, mSet_r, h, Out.bind2_ok, Out.bind_ok, thenK_nx]
theorem with_right {i : Nat} {d : D} (hP : s.get (tb "_law_with_right") = some (.own (.str "_law_with_right.<locals>.<lambda>"))) (hg : GoodNames ns) (hv : FOk v) (hd : FOk (v.set i d)) (od : noOwn d = some d) (h1 : 1 ≤ i) (h5 : i ≤ 5) : c_law_with_right tb [v.O ns, (v.set i d).T ns, .int (i : Int)] s = .ok (.bl true) s := by
  obtain ⟨t, r1, r2⟩ := told_repr hg hd
  have w := law_wrong_eq (s := s) hg hd
  have due := due_eq (s := s) (v := v.set i d) (ns := ns) (m1 := mVar 1) (m3 := mVar 3) (ρ := [some (v.O ns), some ((v.set i d).T ns), some (.int (i : Int)), some (optS ((v.set i d).wrong ns)), none]) (by simp [FV.own]) (by simp [optS_own])
  have e0 : startD 5 [v.O ns, (v.set i d).T ns, D.int (i : Int)] = [some (v.O ns), some ((v.set i d).T ns), some (.int (i : Int)), none, none] := rfl
  unfold c_law_with_right
  rw [callF_r, if_pos (show [v.O ns, (v.set i d).T ns, D.int (i : Int)].length = 3 from rfl), wr_eq, e0, then_set (x := optS ((v.set i d).wrong ns)) (by simp [FV.own, w])]
  simp only [List.set_cons_succ, List.set_cons_zero]
  rw [then_set (x := .str t) (by rw [mCB_r, mCons_r, due]; simp [r1])]
  simp only [List.set_cons_succ, List.set_cons_zero]
  rw [wr_tail hP hg hv hd od h1 h5 r1 r2, Out.bindN_ok, flD_rt]
end
end V

set_option Elab.async false
set_option linter.all false
set_option maxRecDepth 100000
set_option maxHeartbeats 1000000
namespace DL
open PySem L2 PySem.W PyProof.Rows
theorem FGood.set {ns : Row} {v u : FV} {i : Nat} (h : FGood ns v) (g : FGood ns u) : FGood ns (v.set i (u.get i)) := by
  obtain ⟨a1, a2, a3, a4, a5⟩ := h
  obtain ⟨b1, b2, b3, b4, b5⟩ := g
  match i with
  | 0 => exact ⟨a1, a2, a3, a4, b5⟩
  | 1 => exact ⟨b1, a2, a3, a4, a5⟩
  | 2 => exact ⟨a1, b2, a3, a4, a5⟩
  | 3 => exact ⟨a1, a2, b3, a4, a5⟩
  | 4 => exact ⟨a1, a2, a3, b4, a5⟩
  | n + 5 => exact ⟨a1, a2, a3, a4, b5⟩
theorem FV.mid {ns : Row} {u : FV} {i : Nat} (h1 : 1 ≤ i) (h5 : i ≤ 5) : oCut (u.T ns) (some (i : Int)) (some ((i : Int) + 1)) = some (.tup [u.get i]) := by
  rcases at5 h1 h5 with rfl | rfl | rfl | rfl | rfl <;> rfl
theorem range16 : oRange2 [.int 1, .int 6] = some ((List.range 5).map fun i : Nat => .int ((1 + i : Nat) : Int)) := rfl
theorem oNe_bb {b : Bool} : oNe' (.bl b) (.bl b) = some (.bl false) := by cases b <;> rfl
end DL
namespace V
open PySem L2 DL
section
variable {s : Ds} {ns : Row} {v u : FV} {tb : Str → Addr}
theorem mk_good (hg : GoodNames ns) (hv : FGood ns v) : mkP "Rule" c_Rule___init__ [tS ns, v.f1, v.f2, v.f3, v.f4, v.f5] s = .ok (v.O ns) s := by
  have e := mk_any (s := s) hg (hv.ok hg)
  unfold mkO at e
  rw [hv.none hg] at e
  exact e
theorem eqr_body {i : Nat} {v4 : Option D} (hg : GoodNames ns) (hv : FGood ns v) (hu : FGood ns u) (h1 : 1 ≤ i) (h5 : i ≤ 5) :
    b_law_equals_right1 [some (v.T ns), some (u.T ns), some (v.O ns), some (.int (i : Int)), v4] s = .ok (.nx [some (v.T ns), some (u.T ns), some (v.O ns), some (.int (i : Int)), some ((v.set i (u.get i)).T ns)]) s := by
  obtain ⟨xa, xb, ca, cb, la, lb, ct⟩ := FV.cuts (ns := ns) (v := v) (i := i) (d := u.get i) h1 h5
  have cm := FV.mid (ns := ns) (u := u) h1 h5
  have hw : FGood ns (v.set i (u.get i)) := hv.set hu
  generalize v.set i (u.get i) = w at ct hw ⊢
  have a1 : oAdd' (.tup xa) (.tup [u.get i]) = some (.tup (xa ++ [u.get i])) := DL.add_tup (by simp; omega)
  have a2 : oAdd' (.tup (xa ++ [u.get i])) (.tup xb) = some (w.T ns) := by
    rw [DL.add_tup (by simp; omega), ← ct]; simp
  have e1 := mk_good (s := s) hg hw
  have e2 := eq_OO (s := s) hg hv hw
  have e3 := eq_T (neg := false) (hw.fitT hg) (hv.fitT hg)
  rw [eqv_T_comm] at e3
  simp only [Bool.bne_false] at e3
  have m1 : metD "Rule" "__eq__" s (v.O ns) = true := met_eq
  have m2 : eqArg "Rule" s (w.O ns) = true := arg_O
  simp [b_law_equals_right1, FV.own, FV.ownO, ca, cb, cm, a1, a2, FV.ix0, FV.ix1, FV.ix2, FV.ix3, FV.ix4, FV.ix5, e1, e2, e3, m1, m2, oNe_bb]
theorem equals_right (hg : GoodNames ns) (hv : FGood ns v) (hu : FGood ns u) : c_law_equals_right [v.T ns, u.T ns, v.O ns] s = .ok (.bl true) s := by
  obtain ⟨ρ', h1, w3, w4, rfl⟩ := forF_inv (og := ogName 3) (mb := b_law_equals_right1) (s := s) (fun ρ => ∃ w3 w4, ρ = [some (v.T ns), some (u.T ns), some (v.O ns), w3, w4]) ((List.range 5).map fun i : Nat => .int ((1 + i : Nat) : Int)) (fun d hm ρ ⟨a, b, e⟩ => by
    subst e
    obtain ⟨i, hi, rfl⟩ := List.mem_map.mp hm
    have hi' := List.mem_range.mp hi
    exact ⟨_, _, rfl, eqr_body hg hv hu (by omega) (by omega), _, _, rfl⟩) _ ⟨none, none, rfl⟩
  simp [c_law_equals_right, m_law_equals_right, FV.own, FV.ownO, range16, -List.map_map]
  simp at h1
  rw [h1]
  simp
end
end V

set_option Elab.async false
set_option linter.all false
set_option maxRecDepth 100000
set_option maxHeartbeats 2000000
namespace V
open PySem L2 DL
def l2t (tb : Str → Addr) : FX := (mThen (mSet 13 (mCall (c_law_wrong) (mCons (mVar 11) mNil))) (mThen (mSet 9 (mCB oRepr (mCons (mIf (mTest (mBin oIsN (mVar 13) (mC .non))) (mVar 11) (mTup (mCons (mC (.str "rule")) (mCons (mVar 13) mNil)))) mNil))) (mIfS (mTest (mBin oNe' (mCB oRepr (mCons (mLam (tb "law") "law.<locals>.<lambda>" 3 m_law_told (mCall (mkP "Rule" c_Rule___init__) (mCons (mBin oIx' (mVar 11) (mC (.int 0))) (mCons (mBin oIx' (mVar 11) (mC (.int 1))) (mCons (mBin oIx' (mVar 11) (mC (.int 2))) (mCons (mBin oIx' (mVar 11) (mC (.int 3))) (mCons (mBin oIx' (mVar 11) (mC (.int 4))) (mCons (mBin oIx' (mVar 11) (mC (.int 5))) mNil)))))))) mNil)) (mVar 9))) (mRet (mC (.bl false))) mNext)))
theorem law2_eq {tb : Str → Addr} : b_law2 tb = (mThen (mSet 11 (mCall (c_law_near) (mCons (mVar 1) (mCons (mVar 4) (mCons (mBin oAdd' (mC (.int 1)) (mCall (c_law_next) (mCons (mVar 1) (mCons (mC (.int 5)) mNil)))) mNil))))) (mThen (mSet 11 (mIf (mTest (mBin oEq' (mCall (c_law_next) (mCons (mVar 1) (mCons (mC (.int 3)) mNil))) (mC (.int 0)))) (mCall (c_law_near) (mCons (mVar 1) (mCons (mVar 11) (mCons (mBin oAdd' (mC (.int 1)) (mCall (c_law_next) (mCons (mVar 1) (mCons (mC (.int 5)) mNil)))) mNil)))) (mVar 11))) (l2t tb))) := rfl
section
variable {tb : Str → Addr} {ns : Row} {v u : FV}
theorem fnb {b k W b' k' W' : Nat} {i : Nat} {d : D} (hv : FN b k W v) (hb : b ≤ b') (hk : k ≤ k') (hW : W ≤ W') (hp : Pn b' k' d) (hw : wt d ≤ W') : FN b' k' W' (v.set i d) := (hv.mono hb hk hW).set hp hw
theorem law1_post {a : Addr} {n : Int} {ob : List (Addr × D)} {i : Nat} {x0 x2 x3 x5 x7 x8 x9 x11 x12 x13 x14 : Option D} {Q : Fl → Ds → Prop} {E : Str → List (Str × D) → Ds → Prop} (hP2 : getL (tb "_law_with_right") ob = some (.own (.str "_law_with_right.<locals>.<lambda>"))) (hg : GoodNames ns) (hv : FGood ns v) (h1 : 1 ≤ i) (h5 : i ≤ 5) (hn : n + 100 ≤ 10 ^ 15)
    (h : ∀ (w11 : Option D) (j : Int), 0 ≤ j → j ≤ 30 → Q (.nx [x0, some (.ref a), x2, x3, some (v.T ns), x5, some (v.O ns), x7, x8, x9, some (.int (i : Int)), w11, x12, x13, x14]) ⟨some (a, n + j), ob⟩) :
    (b_law1 tb [x0, some (.ref a), x2, x3, some (v.T ns), x5, some (v.O ns), x7, x8, x9, some (.int (i : Int)), x11, x12, x13, x14] ⟨some (a, n), ob⟩).post Q E := by
  have hP' : ∀ m : Int, (⟨some (a, m), ob⟩ : Ds).get (tb "_law_with_right") = some (.own (.str "_law_with_right.<locals>.<lambda>")) := fun _ => hP2
  have fn := hv.fn (b := 10 ^ 30) hg (Nat.le_refl _)
  simp [b_law1, FV.own]
  refine near_post hg fn (Nat.le_refl _) (by decide) (Nat.le_refl _) (by decide) (by decide) (by decide) h1 h5 hn fun d j j0 j1 hp hw => ?_
  have hd : FN (10 ^ 30 + 10) 4 290 (v.set i d) := fnb fn (Nat.le_add_right _ _) (by decide) (by decide) hp hw
  have hd' := hd.ok (by decide) (by decide) (by decide)
  have od : noOwn d = some d := own_pl (hp.pl (by decide))
  simp [FV.own, FV.ownO, with_right (hP' _) hg (hv.ok hg) hd' od h1 h5]
  exact h _ _ j0 j1
theorem law2_tail {s : Ds} {w : FV} {x0 x1 x2 x3 x4 x5 x6 x7 x8 x9 x10 x12 x13 x14 : Option D} (hP : s.get (tb "law") = some (.own (.str "law.<locals>.<lambda>"))) (hg : GoodNames ns) (hw : FOk w) : ∃ w9 w13, l2t tb [x0, x1, x2, x3, x4, x5, x6, x7, x8, x9, x10, some (w.T ns), x12, x13, x14] s = .ok (.nx [x0, x1, x2, x3, x4, x5, x6, x7, x8, w9, x10, some (w.T ns), x12, w13, x14]) s := by
  obtain ⟨t, r1, r2⟩ := told_repr hg hw
  have e3 := law_wrong_eq (s := s) hg hw
  have due := due_eq (s := s) (v := w) (ns := ns) (m1 := mVar 11) (m3 := mVar 13) (ρ := [x0, x1, x2, x3, x4, x5, x6, x7, x8, x9, x10, some (w.T ns), x12, some (optS (w.wrong ns)), x14]) (by simp [FV.own]) (by simp [optS_own])
  refine ⟨some (.str t), some (optS (w.wrong ns)), ?_⟩
  unfold l2t
  rw [then_set (x := optS (w.wrong ns)) (by simp [FV.own, e3])]
  simp only [List.set_cons_succ, List.set_cons_zero]
  rw [then_set (x := .str t) (by rw [mCB_r, mCons_r, due]; simp [r1])]
  simp only [List.set_cons_succ, List.set_cons_zero]
  have tm := told_mk (P := tb "law") (q := "law.<locals>.<lambda>") (ns := ns) (v := w) (mb := mCall (mkP "Rule" c_Rule___init__) (mCons (mBin oIx' (mVar 11) (mC (.int 0))) (mCons (mBin oIx' (mVar 11) (mC (.int 1))) (mCons (mBin oIx' (mVar 11) (mC (.int 2))) (mCons (mBin oIx' (mVar 11) (mC (.int 3))) (mCons (mBin oIx' (mVar 11) (mC (.int 4))) (mCons (mBin oIx' (mVar 11) (mC (.int 5))) mNil))))))) (ρ := [x0, x1, x2, x3, x4, x5, x6, x7, x8, some (.str t), x10, some (w.T ns), x12, some (optS (w.wrong ns)), x14]) hP hw (by
    have := mk_any (s := s) hg hw
    simp only [mCall_r, mCons_r, mBin_r, mVar_r, List.getElem?_cons_succ, List.getElem?_cons_zero, FV.own, optO_some, Out.bind_ok, mC_r, FV.ix0, FV.ix1, FV.ix2, FV.ix3, FV.ix4, FV.ix5, mNil_r]
    exact this)
  rw [mIfS_r, mTest_r, mBin_r, mCB_r, mCons_r, tm]
  simp [r1, oEqB_same r2]
theorem law2_post {a : Addr} {n : Int} {ob : List (Addr × D)} {x0 x2 x3 x5 x6 x7 x8 x9 x10 x11 x12 x13 x14 : Option D} {Q : Fl → Ds → Prop} {E : Str → List (Str × D) → Ds → Prop} (hP : getL (tb "law") ob = some (.own (.str "law.<locals>.<lambda>"))) (hg : GoodNames ns) (hv : FGood ns v) (hn : n + 300 ≤ 10 ^ 15)
    (h : ∀ (w9 w11 w13 : Option D) (j : Int), 0 ≤ j → j ≤ 100 → Q (.nx [x0, some (.ref a), x2, x3, some (v.T ns), x5, x6, x7, x8, w9, x10, w11, x12, w13, x14]) ⟨some (a, n + j), ob⟩) :
    (b_law2 tb [x0, some (.ref a), x2, x3, some (v.T ns), x5, x6, x7, x8, x9, x10, x11, x12, x13, x14] ⟨some (a, n), ob⟩).post Q E := by
  have hP' : ∀ m : Int, (⟨some (a, m), ob⟩ : Ds).get (tb "law") = some (.own (.str "law.<locals>.<lambda>")) := fun _ => hP
  have fn := hv.fn (b := 10 ^ 30) hg (Nat.le_refl _)
  rw [law2_eq]
  simp [FV.own]
  refine next_post (by omega) (by omega) (by omega) fun r r0 r1 => ?_
  obtain ⟨i, rfl⟩ := Int.eq_ofNat_of_zero_le r0
  rw [oAdd_ii, show (1 : Int) + (i : Int) = ((1 + i : Nat) : Int) by omega]
  simp [FV.own]
  refine near_post (i := 1 + i) hg fn (Nat.le_refl _) (by decide) (Nat.le_refl _) (by decide) (by decide) (by decide) (by omega) (by omega) (by omega) fun d j j0 j1 hp hw => ?_
  have hd : FN (10 ^ 30 + 10) 4 290 (v.set (1 + i) d) := fnb fn (Nat.le_add_right _ _) (by decide) (by decide) hp hw
  generalize v.set (1 + i) d = w at hd ⊢
  simp [FV.own]
  refine next_post (by omega) (by omega) (by omega) fun r r0 r1 => ?_
  by_cases z : r = 0
  · subst z
    simp [FV.own]
    refine next_post (by omega) (by omega) (by omega) fun r r0 r1 => ?_
    obtain ⟨i2, rfl⟩ := Int.eq_ofNat_of_zero_le r0
    rw [oAdd_ii, show (1 : Int) + (i2 : Int) = ((1 + i2 : Nat) : Int) by omega]
    simp [FV.own]
    refine near_post (i := 1 + i2) hg hd (Nat.le_add_right _ _) (by decide) (by decide) (by decide) (by decide) (by decide) (by omega) (by omega) (by omega) fun d2 j2 j20 j21 hp2 hw2 => ?_
    have hd2 : FN (10 ^ 30 + 10 + 10) 7 650 (w.set (1 + i2) d2) := fnb hd (Nat.le_add_right _ _) (by decide) (by decide) hp2 hw2
    obtain ⟨w9, w13, e⟩ := law2_tail (tb := tb) (ns := ns) (x0 := x0) (x1 := some (.ref a)) (x2 := x2) (x3 := x3) (x4 := some (v.T ns)) (x5 := x5) (x6 := x6) (x7 := x7) (x8 := x8) (x9 := x9) (x10 := x10) (x12 := x12) (x13 := x13) (x14 := x14) (hP' (n + 1 + j + 1 + 1 + j2)) hg (hd2.ok (by decide) (by decide) (by decide))
    rw [e]
    simp
    rw [show n + 1 + j + 1 + 1 + j2 = n + (1 + j + 1 + 1 + j2) by omega]
    exact h _ _ _ _ (by omega) (by omega)
  · simp [FV.own, z]
    obtain ⟨w9, w13, e⟩ := law2_tail (tb := tb) (ns := ns) (x0 := x0) (x1 := some (.ref a)) (x2 := x2) (x3 := x3) (x4 := some (v.T ns)) (x5 := x5) (x6 := x6) (x7 := x7) (x8 := x8) (x9 := x9) (x10 := x10) (x12 := x12) (x13 := x13) (x14 := x14) (hP' (n + 1 + j + 1)) hg (hd.ok (by decide) (by decide) (by decide))
    rw [e]
    simp
    rw [show n + 1 + j + 1 = n + (1 + j + 1) by omega]
    exact h _ _ _ _ (by omega) (by omega)
end
end V

set_option Elab.async false
set_option linter.all false
set_option maxRecDepth 100000
set_option maxHeartbeats 2000000
namespace V
open PySem L2 DL
def l3c (tb : Str → Addr) : FX := (mThen (mFor (mIt oRange2 (mCons (mC (.int 1)) (mCons (mC (.int 6)) mNil))) (ogName 10) (b_law1 tb)) (mThen (mFor (mIt oRange1 (mCons (mC (.int 8)) mNil)) (ogName 12) (b_law2 tb)) (mThen (mSet 14 (mBin oIx' (mLst (mCons (mC .non) (mCons (mTup mNil) (mCons (mUn oRev (mVar 3)) (mCons (mCB oList (mCons (mVar 3) mNil)) (mCons (mC (.str "a")) (mCons (mSl (mVar 3) mNoPart (mPart (mC (.int 1)))) mNil))))))) (mCall (c_law_next) (mCons (mVar 1) (mCons (mC (.int 6)) mNil))))) (mIfS (mOr (mTest (mBin oNe' (mLam (tb "law") "law.<locals>.<lambda>" 3 m_law_told (mCall (mkP "Rule" c_Rule___init__) (mCons (mVar 14) (mCons (mC (.int 5)) (mCons (mC (.int 5)) (mCons (mC (.int 5)) (mCons (mC (.int 5)) (mCons (mC (.int 5)) mNil)))))))) (mTup (mCons (mC (.str "names")) (mCons (mCB oRepr (mCons (mVar 14) mNil)) mNil))))) (mTest (mEqO "Rule" c_Rule___eq__ (mVar 6) (mVar 4)))) (mRet (mC (.bl false))) mNext))))
def l3b (tb : Str → Addr) : FX := (mThen (mSet 6 (mCall (mkP "Rule" c_Rule___init__) (mCons (mBin oIx' (mVar 4) (mC (.int 0))) (mCons (mBin oIx' (mVar 4) (mC (.int 1))) (mCons (mBin oIx' (mVar 4) (mC (.int 2))) (mCons (mBin oIx' (mVar 4) (mC (.int 3))) (mCons (mBin oIx' (mVar 4) (mC (.int 4))) (mCons (mBin oIx' (mVar 4) (mC (.int 5))) mNil)))))))) (mThen (mSet 7 (mCall (mkP "Rule" c_Rule___init__) (mCons (mBin oIx' (mVar 5) (mC (.int 0))) (mCons (mBin oIx' (mVar 5) (mC (.int 1))) (mCons (mBin oIx' (mVar 5) (mC (.int 2))) (mCons (mBin oIx' (mVar 5) (mC (.int 3))) (mCons (mBin oIx' (mVar 5) (mC (.int 4))) (mCons (mBin oIx' (mVar 5) (mC (.int 5))) mNil)))))))) (mThen (mIfS (mOr (mTest (mBin oNe' (mLam (tb "law") "law.<locals>.<lambda>" 3 m_law_told (mVar 6)) (mVar 4))) (mOr (mTest (mBin oNe' (mEqO "Rule" c_Rule___eq__ (mVar 6) (mVar 7)) (mBin oEq' (mVar 4) (mVar 5)))) (mTest (mBin oNe' (mCall (c_units) (mCons (mVar 6) mNil)) (mCall (c_law_units) (mCons (mVar 4) mNil)))))) (mRet (mC (.bl false))) mNext) (mThen (mIfS (mNot (mTest (mCall (c_law_equals_right) (mCons (mVar 4) (mCons (mVar 5) (mCons (mVar 6) mNil)))))) (mRet (mC (.bl false))) mNext) (mThen (mSet 8 (mLst (mCons (mLam (tb "law") "law.<locals>.<lambda>" 3 m_law_told (mMeth "Rule" "with_seats" c_Rule_with_seats (mVar 6) (mCons (mBin oIx' (mVar 5) (mC (.int 1))) mNil))) (mCons (mLam (tb "law") "law.<locals>.<lambda>" 3 m_law_told (mMeth "Rule" "with_quota" c_Rule_with_quota (mVar 6) (mCons (mBin oIx' (mVar 5) (mC (.int 2))) (mCons (mBin oIx' (mVar 5) (mC (.int 3))) mNil)))) mNil)))) (mThen (mSet 8 (mBin oAdd' (mVar 8) (mLst (mCons (mLam (tb "law") "law.<locals>.<lambda>" 3 m_law_told (mMeth "Rule" "with_hand" c_Rule_with_hand (mVar 6) (mCons (mBin oIx' (mVar 5) (mC (.int 4))) mNil))) (mCons (mLam (tb "law") "law.<locals>.<lambda>" 3 m_law_told (mMeth "Rule" "with_order" c_Rule_with_order (mVar 6) (mCons (mBin oIx' (mVar 5) (mC (.int 5))) mNil))) mNil))))) (mThen (mSet 9 (mLst (mCons (mBin oAdd' (mBin oAdd' (mSl (mVar 4) mNoPart (mPart (mC (.int 1)))) (mSl (mVar 5) (mPart (mC (.int 1))) (mPart (mC (.int 2))))) (mSl (mVar 4) (mPart (mC (.int 2))) mNoPart)) (mCons (mBin oAdd' (mBin oAdd' (mSl (mVar 4) mNoPart (mPart (mC (.int 2)))) (mSl (mVar 5) (mPart (mC (.int 2))) (mPart (mC (.int 4))))) (mSl (mVar 4) (mPart (mC (.int 4))) mNoPart)) mNil)))) (mThen (mIfS (mTest (mBin oNe' (mVar 8) (mBin oAdd' (mVar 9) (mLst (mCons (mBin oAdd' (mBin oAdd' (mSl (mVar 4) mNoPart (mPart (mC (.int 4)))) (mSl (mVar 5) (mPart (mC (.int 4))) (mPart (mC (.int 5))))) (mSl (mVar 4) (mPart (mC (.int 5))) mNoPart)) (mCons (mBin oAdd' (mSl (mVar 4) mNoPart (mPart (mC (.int 5)))) (mSl (mVar 5) (mPart (mC (.int 5))) mNoPart)) mNil)))))) (mRet (mC (.bl false))) mNext) (l3c tb)))))))))
theorem law3_eq {tb : Str → Addr} : b_law3 tb = (mThen (mSet 3 (mCall (c_law_many) (mCons (mVar 1) (mCons (mC (.int 4)) mNil)))) (mThen (mAsg (mTup (mCons (mCall (c_law_rule) (mCons (mVar 1) (mCons (mVar 3) mNil))) (mCons (mCall (c_law_rule) (mCons (mVar 1) (mCons (mVar 3) mNil))) mNil))) (og2 4 5)) (l3b tb))) := rfl
section
variable {tb : Str → Addr} {ns : Row} {v u : FV} {s : Ds}
theorem made_ok (hg : GoodNames ns) (hv : FGood ns v) : mkO s ns v = .ok (v.O ns) s := by
  unfold mkO
  rw [hv.none hg]
theorem l3b_eq {x0 x1 x2 x3 x6 x7 x8 x9 x10 x11 x12 x13 x14 : Option D} (hP : s.get (tb "law") = some (.own (.str "law.<locals>.<lambda>"))) (hg : GoodNames ns) (hv : FGood ns v) (hu : FGood ns u) : ∃ w7 w8 w9, l3b tb [x0, x1, x2, x3, some (v.T ns), some (u.T ns), x6, x7, x8, x9, x10, x11, x12, x13, x14] s = l3c tb [x0, x1, x2, x3, some (v.T ns), some (u.T ns), some (v.O ns), w7, w8, w9, x10, x11, x12, x13, x14] s := by
  have s1 : FGood ns { v with f1 := u.f1 } := ⟨hu.seats, hv.quota, hv.over, hv.hand, hv.order⟩
  have s2 : FGood ns { v with f2 := u.f2, f3 := u.f3 } := ⟨hv.seats, hu.quota, hu.over, hv.hand, hv.order⟩
  have s4 : FGood ns { v with f4 := u.f4 } := ⟨hv.seats, hv.quota, hv.over, hu.hand, hv.order⟩
  have s5 : FGood ns { v with f5 := u.f5 } := ⟨hv.seats, hv.quota, hv.over, hv.hand, hu.order⟩
  have ou := hu.ok hg
  have o1 := own_pl ou.p1
  have o2 := own_pl ou.p2
  have o3 := own_pl ou.p3
  have o4 := own_pl ou.p4
  have o5 := own_pl ou.p5
  have m00 : metD "Rule" "__eq__" s (v.O ns) = true := rfl
  have m01 : metD "Rule" "with_seats" s (v.O ns) = true := rfl
  have m02 : metD "Rule" "with_quota" s (v.O ns) = true := rfl
  have m03 : metD "Rule" "with_hand" s (v.O ns) = true := rfl
  have m04 : metD "Rule" "with_order" s (v.O ns) = true := rfl
  have m2 : eqArg "Rule" s (u.O ns) = true := arg_O
  refine ⟨some (u.O ns), some (.lst [FV.T ns { v with f1 := u.f1 }, FV.T ns { v with f2 := u.f2, f3 := u.f3 }, FV.T ns { v with f4 := u.f4 }, FV.T ns { v with f5 := u.f5 }]), some (.lst [FV.T ns { v with f1 := u.f1 }, FV.T ns { v with f2 := u.f2, f3 := u.f3 }]), ?_⟩
  unfold l3b
  rw [then_set (x := v.O ns) (by simp [FV.own, FV.ix0, FV.ix1, FV.ix2, FV.ix3, FV.ix4, FV.ix5, mk_good hg hv])]
  simp only [List.set_cons_succ, List.set_cons_zero]
  rw [then_set (x := u.O ns) (by simp [FV.own, FV.ix0, FV.ix1, FV.ix2, FV.ix3, FV.ix4, FV.ix5, mk_good hg hu])]
  simp only [List.set_cons_succ, List.set_cons_zero]
  have t0 := told_ok (P := tb "law") (q := "law.<locals>.<lambda>") (mb := mVar 6) (ρ := [x0, x1, x2, x3, some (v.T ns), some (u.T ns), some (v.O ns), some (u.O ns), x8, x9, x10, x11, x12, x13, x14]) (s := s) (ns := ns) (v := v) hP (by simp [FV.ownO])
  have q0 := oEqB_same (neg := true) ((hv.fitT hg).fit (by decide))
  have e2 := eq_OO (s := s) hg hv hu
  have e3 := eq_T (neg := false) (hv.fitT hg) (hu.fitT hg)
  simp only [Bool.bne_false] at e3
  obtain ⟨x, un1, un2⟩ := units_both (s := s) hg hv
  rw [mThen_r, mIfS_r, mOr_r, mTest_r, mBin_r, t0]
  simp [FV.own, FV.ownO, q0, m00, m2, e2, e3, oNe_bb, un1, un2, equals_right hg hv hu]
  -- the four rules with something of the other one
  have t1 : ∀ x8 x9, mLam (tb "law") "law.<locals>.<lambda>" 3 m_law_told (mMeth "Rule" "with_seats" c_Rule_with_seats (mVar 6) (mCons (mBin oIx' (mVar 5) (mC (.int 1))) mNil)) [x0, x1, x2, x3, some (v.T ns), some (u.T ns), some (v.O ns), some (u.O ns), x8, x9, x10, x11, x12, x13, x14] s = .ok (FV.T ns { v with f1 := u.f1 }) s := fun x8 x9 => told_ok hP (by
    have := with_seats_eq (s := s) (v := v) hg (s1.ok hg) o1
    rw [made_ok hg s1] at this
    simp [FV.ownO, FV.own, m01, FV.ix1, this])
  have t2 : ∀ x8 x9, mLam (tb "law") "law.<locals>.<lambda>" 3 m_law_told (mMeth "Rule" "with_quota" c_Rule_with_quota (mVar 6) (mCons (mBin oIx' (mVar 5) (mC (.int 2))) (mCons (mBin oIx' (mVar 5) (mC (.int 3))) mNil))) [x0, x1, x2, x3, some (v.T ns), some (u.T ns), some (v.O ns), some (u.O ns), x8, x9, x10, x11, x12, x13, x14] s = .ok (FV.T ns { v with f2 := u.f2, f3 := u.f3 }) s := fun x8 x9 => told_ok hP (by
    have := with_quota_eq (s := s) (v := v) hg (s2.ok hg) o2 o3
    rw [made_ok hg s2] at this
    simp [FV.ownO, FV.own, m02, FV.ix2, FV.ix3, this])
  have t4 : ∀ x8 x9, mLam (tb "law") "law.<locals>.<lambda>" 3 m_law_told (mMeth "Rule" "with_hand" c_Rule_with_hand (mVar 6) (mCons (mBin oIx' (mVar 5) (mC (.int 4))) mNil)) [x0, x1, x2, x3, some (v.T ns), some (u.T ns), some (v.O ns), some (u.O ns), x8, x9, x10, x11, x12, x13, x14] s = .ok (FV.T ns { v with f4 := u.f4 }) s := fun x8 x9 => told_ok hP (by
    have := with_hand_eq (s := s) (v := v) hg (s4.ok hg) o4
    rw [made_ok hg s4] at this
    simp [FV.ownO, FV.own, m03, FV.ix4, this])
  have t5 : ∀ x8 x9, mLam (tb "law") "law.<locals>.<lambda>" 3 m_law_told (mMeth "Rule" "with_order" c_Rule_with_order (mVar 6) (mCons (mBin oIx' (mVar 5) (mC (.int 5))) mNil)) [x0, x1, x2, x3, some (v.T ns), some (u.T ns), some (v.O ns), some (u.O ns), x8, x9, x10, x11, x12, x13, x14] s = .ok (FV.T ns { v with f5 := u.f5 }) s := fun x8 x9 => told_ok hP (by
    have := with_order_eq (s := s) (v := v) hg (s5.ok hg) o5
    rw [made_ok hg s5] at this
    simp [FV.ownO, FV.own, m04, FV.ix5, this])
  have c1 : oCut (v.T ns) none (some 1) = some (.tup [tS ns]) := rfl
  have c2 : oCut (u.T ns) (some 1) (some 2) = some (.tup [u.f1]) := rfl
  have c3 : oCut (v.T ns) (some 2) none = some (.tup [v.f2, v.f3, v.f4, v.f5]) := rfl
  have c4 : oCut (v.T ns) none (some 2) = some (.tup [tS ns, v.f1]) := rfl
  have c5 : oCut (u.T ns) (some 2) (some 4) = some (.tup [u.f2, u.f3]) := rfl
  have c6 : oCut (v.T ns) (some 4) none = some (.tup [v.f4, v.f5]) := rfl
  have c7 : oCut (v.T ns) none (some 4) = some (.tup [tS ns, v.f1, v.f2, v.f3]) := rfl
  have c8 : oCut (u.T ns) (some 4) (some 5) = some (.tup [u.f4]) := rfl
  have c9 : oCut (v.T ns) (some 5) none = some (.tup [v.f5]) := rfl
  have c10 : oCut (v.T ns) none (some 5) = some (.tup [tS ns, v.f1, v.f2, v.f3, v.f4]) := rfl
  have c11 : oCut (u.T ns) (some 5) none = some (.tup [u.f5]) := rfl
  have a1 : ∀ {xs ys : List D}, xs.length + ys.length ≤ 1000 → oAdd' (.tup xs) (.tup ys) = some (.tup (xs ++ ys)) := fun h => DL.add_tup h
  have q1 := oEqB_same (neg := true) ((fitK_lst (k := 2) (ds := [FV.T ns { v with f1 := u.f1 }, FV.T ns { v with f2 := u.f2, f3 := u.f3 }, FV.T ns { v with f4 := u.f4 }, FV.T ns { v with f5 := u.f5 }]) fun d hd => by
    simp only [List.mem_cons, List.not_mem_nil, or_false] at hd
    rcases hd with rfl | rfl | rfl | rfl
    · exact s1.fitT hg
    · exact s2.fitT hg
    · exact s4.fitT hg
    · exact s5.fitT hg).fit (by decide))
  have q1' : oNe' (.lst [FV.T ns { v with f1 := u.f1 }, FV.T ns { v with f2 := u.f2, f3 := u.f3 }, FV.T ns { v with f4 := u.f4 }, FV.T ns { v with f5 := u.f5 }]) (.lst [.tup [tS ns, u.f1, v.f2, v.f3, v.f4, v.f5], .tup [tS ns, v.f1, u.f2, u.f3, v.f4, v.f5], .tup [tS ns, v.f1, v.f2, v.f3, u.f4, v.f5], .tup [tS ns, v.f1, v.f2, v.f3, v.f4, u.f5]]) = some (.bl false) := q1
  have al : ∀ x y z w : D, oAdd' (.lst [x, y]) (.lst [z, w]) = some (.lst [x, y, z, w]) := fun _ _ _ _ => rfl
  simp [t1, t2, t4, t5, FV.own, FV.ownO, c1, c2, c3, c4, c5, c6, c7, c8, c9, c10, c11, a1, al, q1']
  rfl
theorem ix_odd {xs : List D} {r : Int} (h0 : 0 ≤ r) (h1 : r < xs.length) : ∃ d, oIx' (.lst xs) (.int r) = some d ∧ d ∈ xs := atI_int xs h0 h1
theorem l3c_post {a : Addr} {n : Int} {ob : List (Addr × D)} {x0 x2 x5 x7 x8 x9 x10 x11 x12 x13 x14 : Option D} {Q : Fl → Ds → Prop} {E : Str → List (Str × D) → Ds → Prop} (hP : getL (tb "law") ob = some (.own (.str "law.<locals>.<lambda>"))) (hP2 : getL (tb "_law_with_right") ob = some (.own (.str "_law_with_right.<locals>.<lambda>"))) (hg : GoodNames ns) (hv : FGood ns v) (hn : n + 3000 ≤ 10 ^ 15)
    (h : ∀ (w9 w10 w11 w12 w13 w14 : Option D) (j : Int), 0 ≤ j → j ≤ 1000 → Q (.nx [x0, some (.ref a), x2, some (tS ns), some (v.T ns), x5, some (v.O ns), x7, x8, w9, w10, w11, w12, w13, w14]) ⟨some (a, n + j), ob⟩) :
    (l3c tb [x0, some (.ref a), x2, some (tS ns), some (v.T ns), x5, some (v.O ns), x7, x8, x9, x10, x11, x12, x13, x14] ⟨some (a, n), ob⟩).post Q E := by
  have hP' : ∀ m : Int, (⟨some (a, m), ob⟩ : Ds).get (tb "law") = some (.own (.str "law.<locals>.<lambda>")) := fun _ => hP
  unfold l3c
  simp only [mThen_r, mFor_r, mIt_r, mCons_r, mC_r, mNil_r, Out.bind_ok, range16, optO_some, Out.bind2_ok, post_bind']
  refine forF_post (fun i ρ s => ∃ w10 w11, ∃ j : Int, 0 ≤ j ∧ j ≤ 30 * i ∧ ρ = [x0, some (.ref a), x2, some (tS ns), some (v.T ns), x5, some (v.O ns), x7, x8, x9, w10, w11, x12, x13, x14] ∧ s = ⟨some (a, n + j), ob⟩) _ 0 (fun d hd i ρ s hi hl ⟨w10, w11, j, j0, j1, eρ, es⟩ => ?_) (fun ρ s ⟨w10, w11, j, j0, j1, eρ, es⟩ => ?_) _ _ ⟨x10, x11, 0, by omega, by omega, rfl, by simp⟩
  · subst eρ es
    obtain ⟨i', hi', rfl⟩ := List.mem_map.mp hd
    have hi'' := List.mem_range.mp hi'
    simp at hl
    exact ⟨_, rfl, law1_post hP2 hg hv (by omega) (by omega) (by omega) fun w11 j2 k0 k1 => ⟨_, rfl, _, w11, j + j2, by omega, by omega, rfl, by rw [show n + j + j2 = n + (j + j2) by omega]⟩⟩
  subst eρ es
  simp at j1
  simp only [thenK_nx, mThen_r, mFor_r, mIt_r, mCons_r, mC_r, mNil_r, Out.bind_ok, range8, optO_some, Out.bind2_ok, post_bind']
  refine forF_post (fun i ρ s => ∃ w9 w11 w12 w13, ∃ j2 : Int, 0 ≤ j2 ∧ j2 ≤ 100 * i ∧ ρ = [x0, some (.ref a), x2, some (tS ns), some (v.T ns), x5, some (v.O ns), x7, x8, w9, w10, w11, w12, w13, x14] ∧ s = ⟨some (a, n + j + j2), ob⟩) _ 0 (fun d hd i ρ s hi hl ⟨w9, w11, w12, w13, j2, k0, k1, eρ, es⟩ => ?_) (fun ρ s ⟨w9, w11, w12, w13, j2, k0, k1, eρ, es⟩ => ?_) _ _ ⟨x9, w11, x12, x13, 0, by omega, by omega, rfl, by simp⟩
  · subst eρ es
    simp at hl
    exact ⟨_, rfl, law2_post hP hg hv (by omega) fun w9 w11 w13 j3 k0 k1 => ⟨_, rfl, w9, w11, _, w13, j2 + j3, by omega, by omega, rfl, by rw [show n + j + j2 + j3 = n + j + (j2 + j3) by omega]⟩⟩
  subst eρ es
  simp at k1
  simp [cut1]
  refine next_post (by omega) (by omega) (by omega) fun r r0 r1 => ?_
  obtain ⟨d, e, hd⟩ := ix_odd (xs := [.non, .tup [], .tup (ns.map sD).reverse, .lst (ns.map sD), .str "a", .tup ((ns.map sD).take 1)]) r0 (by simpa using r1)
  have h4 := hg.le
  have h2 := hg.ge
  have rw1 : ∀ l ∈ ns.reverse, IsWord l := fun l hl => hg.words l (List.mem_reverse.mp hl)
  have tn : Th (.tup []) := ⟨fun _ z => (List.not_mem_nil z).elim, by decide⟩
  have hth : Th d ∧ namesB d = false := by
    simp only [List.mem_cons, List.not_mem_nil, or_false] at hd
    rcases hd with rfl | rfl | rfl | rfl | rfl | rfl
    · exact ⟨⟨trivial, by decide⟩, rfl⟩
    · exact ⟨tn, rfl⟩
    · rw [← List.map_reverse]
      exact ⟨th_row rw1 (by simp; omega), rev_not hg⟩
    · exact ⟨th_rowL hg.words (by omega), rfl⟩
    · exact ⟨⟨plB_ok 9 _ (by decide +kernel), by decide +kernel⟩, rfl⟩
    · rw [← List.map_take]
      refine ⟨th_row (fun l hl => hg.words l (List.mem_of_mem_take hl)) (by simp; omega), ?_⟩
      cases ns with
      | nil => simp at h2
      | cons x r => rfl
  obtain ⟨⟨pd, wd⟩, nd⟩ := hth
  have od := own_pl pd
  have er := oRepr_pl pd (by omega) (by omega)
  have tn := told_names (P := tb "law") (q := "law.<locals>.<lambda>") (mb := mCall (mkP "Rule" c_Rule___init__) (mCons (mVar 14) (mCons (mC (.int 5)) (mCons (mC (.int 5)) (mCons (mC (.int 5)) (mCons (mC (.int 5)) (mCons (mC (.int 5)) mNil))))))) (ρ := [x0, some (.ref a), x2, some (tS ns), some (v.T ns), x5, some (v.O ns), x7, x8, w9, w10, w11, w12, w13, some d]) (hP' (n + j + j2 + 1)) (by
    have := mk_names (s := ⟨some (a, n + j + j2 + 1), ob⟩) (d1 := .int 5) (d2 := .int 5) (d3 := .int 5) (d4 := .int 5) (d5 := .int 5) pd wd nd
    simp [od, this]) pd (by omega) (by omega)
  have q6 : (D.tup [.str "names", .str (mkS (sc d))]).fit = true := (fitK_tup (k := 0) fun d' hd => by
    rcases List.mem_cons.mp hd with rfl | hd
    · exact fitK_str fun c hc => Nat.lt_trans (lit_small (x := "names") (by decide +kernel) c hc) (by decide)
    · rw [List.mem_singleton.mp hd]
      exact fitK_str fun c hc => Nat.lt_trans (sc_small pd c hc) (by decide)).fit (by decide)
  have m1 : ∀ s, metD "Rule" "__eq__" s (v.O ns) = true := fun _ => rfl
  have m2 : ∀ s, eqArg "Rule" s (v.T ns) = true := fun _ => rfl
  rw [e]
  simp [tn, od, er, oEqB_same q6, FV.own, FV.ownO, m1, m2, eq_OT]
  rw [show n + j + j2 + 1 = n + (j + j2 + 1) by omega]
  exact h _ _ _ _ _ _ _ (by omega) (by omega)
end
theorem law3_post {tb : Str → Addr} {a : Addr} {n : Int} {ob : List (Addr × D)} {x0 x2 x3 x4 x5 x6 x7 x8 x9 x10 x11 x12 x13 x14 : Option D} {Q : Fl → Ds → Prop} {E : Str → List (Str × D) → Ds → Prop} (hP : getL (tb "law") ob = some (.own (.str "law.<locals>.<lambda>"))) (hP2 : getL (tb "_law_with_right") ob = some (.own (.str "_law_with_right.<locals>.<lambda>"))) (hn : n + 4000 ≤ 10 ^ 15)
    (h : ∀ (w3 w4 w5 w6 w7 w8 w9 w10 w11 w12 w13 w14 : Option D) (j : Int), 0 ≤ j → j ≤ 1100 → Q (.nx [x0, some (.ref a), x2, w3, w4, w5, w6, w7, w8, w9, w10, w11, w12, w13, w14]) ⟨some (a, n + j), ob⟩) :
    (b_law3 tb [x0, some (.ref a), x2, x3, x4, x5, x6, x7, x8, x9, x10, x11, x12, x13, x14] ⟨some (a, n), ob⟩).post Q E := by
  have hP' : ∀ m : Int, (⟨some (a, m), ob⟩ : Ds).get (tb "law") = some (.own (.str "law.<locals>.<lambda>")) := fun _ => hP
  rw [law3_eq]
  simp
  refine many_post (m := 4) (by omega) (by omega) (by omega) fun ns k k0 k1 hg hl => ?_
  simp
  refine rule_post hg (by omega) fun r hr hns k2 k20 k21 => ?_
  refine rule_post hg (by omega) fun r' hr' hns' k3 k30 k31 => ?_
  have e1 : r.tup = (RuleV.fv r).T ns := by rw [← hns]; rfl
  have e2 : r'.tup = (RuleV.fv r').T ns := by rw [← hns']; rfl
  have g1 : FGood ns (RuleV.fv r) := hns ▸ fv_good hr
  have g2 : FGood ns (RuleV.fv r') := hns' ▸ fv_good hr'
  rw [e1, e2]
  generalize RuleV.fv r = v at g1
  generalize RuleV.fv r' = u at g2
  obtain ⟨w7, w8, w9, e⟩ := l3b_eq (tb := tb) (x0 := x0) (x1 := some (.ref a)) (x2 := x2) (x3 := some (tS ns)) (x6 := x6) (x7 := x7) (x8 := x8) (x9 := x9) (x10 := x10) (x11 := x11) (x12 := x12) (x13 := x13) (x14 := x14) (hP' (n + k + k2 + k3)) hg g1 g2
  rw [e]
  refine l3c_post hP hP2 hg g1 (by omega) fun w9 w10 w11 w12 w13 w14 j j0 j1 => ?_
  rw [show n + k + k2 + k3 + j = n + (k + k2 + k3 + j) by omega]
  exact h _ _ _ _ _ _ _ _ _ _ _ _ _ (by omega) (by omega)
theorem law_post {tb : Str → Addr} {ob : List (Addr × D)} {ns : List Int} (hP2 : getL (tb "_law_with_right") ob = some (.own (.str "_law_with_right.<locals>.<lambda>"))) (hP : getL (tb "law") ob = some (.own (.str "law.<locals>.<lambda>"))) (h : ns.length ≤ 63) : (c_law tb [.frl (ns.map D.int)] ⟨none, ob⟩).post (fun d _ => d = .bl true) (fun _ _ _ => False) := by
  have hm : oMin2 [.int (ns.length : Int), .int 10] = some (.int ((min ns.length 10 : Nat) : Int)) := min2_nat (m := 10)
  have hr : oRange1 [.int (4 + ((min ns.length 10 : Nat) : Int))] = some ((List.range (4 + min ns.length 10)).map fun i : Nat => .int (i : Int)) := by
    have := oRange1_nat (n := 4 + min ns.length 10) (by omega)
    rw [← this]
    congr 2
  simp only [c_law, callF_r, List.length_cons, List.length_nil, Nat.zero_add, if_true, m_law, mThen_r, mSet_r, mCall_r, mCons_r, mNil_r]
  simp [begun_eq h (s := ⟨none, ob⟩) rfl]
  rw [Out.post_anyA]
  intro a
  simp [hm, hr]
  refine forF_post (fun i ρ s => ∃ w2 w3 w4 w5 w6 w7 w8 w9 w10 w11 w12 w13 w14, ∃ j : Int, 0 ≤ j ∧ j ≤ 1100 * i ∧ ρ = [some (.frl (ns.map D.int)), some (.ref a), w2, w3, w4, w5, w6, w7, w8, w9, w10, w11, w12, w13, w14] ∧ s = ⟨some (a, j), ob⟩) _ 0 (fun d hd i ρ s hi hl ⟨w2, w3, w4, w5, w6, w7, w8, w9, w10, w11, w12, w13, w14, j, j0, j1, eρ, es⟩ => ?_) (fun ρ s ⟨w2, w3, w4, w5, w6, w7, w8, w9, w10, w11, w12, w13, w14, j, j0, j1, eρ, es⟩ => ?_) _ _ ⟨none, none, none, none, none, none, none, none, none, none, none, none, none, 0, by omega, by omega, rfl, rfl⟩
  · subst eρ es
    simp at hl
    refine ⟨_, rfl, law3_post hP hP2 (by omega) fun w3 w4 w5 w6 w7 w8 w9 w10 w11 w12 w13 w14 j2 k0 k1 => ⟨_, rfl, _, w3, w4, w5, w6, w7, w8, w9, w10, w11, w12, w13, w14, j + j2, by omega, by omega, rfl, rfl⟩⟩
  · subst eρ es
    simp
end V

set_option Elab.async false
set_option linter.all false
set_option maxRecDepth 100000
set_option maxHeartbeats 0
open PySem PySem.W PySem.Calls PyProof.Rows
theorem PySem.Challenge.cw_handedvotes_k04_whole_rules_made_holds : PySem.Challenge.rw_handedvotes_k04_whole_rules_made.Holds := by
  w_on; o_law
  refine HandSHeadRun.head_any (r := OpenLaw.row PySem.Challenge.rw_handedvotes_k04_whole_rules_made) (q := view (OpenLaw.row PySem.Challenge.rw_handedvotes_k04_whole_rules_made).prog [44]) (H := Kk04.hk) (ob := Kk04.ob) (M := 4000) (loose := Kk04.loose)
    (d := HandSHeadRun.topDef (OpenLaw.row PySem.Challenge.rw_handedvotes_k04_whole_rules_made).prog 44) (kwd := []) Kk04.ob_eq
    (by kernel_rfl) (fun s => by kernel_rfl) Kk04.run (by kernel_rfl) (by kernel_rfl) (by kernel_rfl) (by rfl) (by first | assumption | decide +kernel) (by decide +kernel) ⟨rfl, rfl, rfl, rfl, rfl, by decide +kernel⟩ ?hw ?hc
  case hw => w_witness2
  case hc =>
    refine DL.walk_gT (l := PySem.Challenge.rw_handedvotes_k04_whole_rules_made) (n := 63) (k := 11) (x := "_law_script") (tf := Kk04.tf) rfl (by decide) (by kernel_rfl) ⟨rfl, by decide, by decide⟩ ?F
    intro w mg fa h Y G hmg0
    obtain ⟨K, c, T⟩ := Y
    have e : (HandSHeadRun.topDef (OpenLaw.row PySem.Challenge.rw_handedvotes_k04_whole_rules_made).prog 44).name = ("law" : PySem.Str) := by kernel_rfl
    rw [e] at hmg0
    have hs : (Kk04.PR.main.scope.names.lookup ("super" : PySem.Str)).isSome = false := by decide +kernel
    obtain ⟨f0, fd0, hm, F⟩ := (show DL.DefAt K mg "law" Kk04.s_law from c.defAt G 31 31 rfl rfl)
    have e2 := hmg0.symm.trans hm
    cases e2
    refine ⟨K, fd0, DL.spF ⟨K, mg, w⟩ (V.c_law (DL.tabA K)), c.kin, c.nos, c.sys, T, ?_, fun ns hl => ?_, fun base hK hG TB => ?_⟩
    · obtain ⟨_, _, _, _, _, _, _, _, _, ef, _⟩ := F.ex
      subst ef
      exact fun s u => .of_eq rfl
    · exact ⟨⟨none, DL.tabOb (DL.tqOf K Kk04.tf)⟩, rfl, DL.Out.post_mono (fun _ _ z => z) (fun _ _ _ z => z.elim) _ (V.law_post (DL.getL_tq (x := "_law_with_right") (by decide +kernel) T.nd (by decide +kernel)) (DL.getL_tq (x := "law") (by decide +kernel) T.nd (by decide +kernel)) hl)⟩
    · exact Kk04.fg_law (Kk04.gs_of (base := base) c G rfl hs T TB) hm F
