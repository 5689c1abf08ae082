import PyProof.Rows.All
import Wide.All
import OpenK.AllK
import Wide.FinOn
import KE.KStateDown
import Lean
import HandS.ForMost
import HandS.Exc
import HandS.TryOnly
import HandS.ExcOwn
import HandS.WordsExc
import HandS.IsInst
import HandS.Wide
import HandS.TupAny
import HandS.Deep
import HandS.StrMore
import HandS.StrSplit
import HandS.Flow
import HandS.HotCalls
import HandS.TupMul
import HandS.Conv
import KE.KeyNested
import HandS.Walk
import PyProof.NeKinds
import HandS.TupLe
import PyProof.Rows.IntBool
import PyProof.TwoTypesSub
import PyProof.StrOps2
import PyProof.DictMoreH
import PyProof.DictKind
import HandS.Sort
import HandS.Replace
import HandS.Zip
import HandS.Iter
import HandS.Codes
import KE.GoesEnum
import KE.KDictPairs
import KE.DataMinMax
import HandS.SortRule
import HandS.SortInts
import KE.KDictSum
import HandS.Style
import HandS.Defaults
import HandS.HeadEnd
import HandS.HeadHook1
import HandS.HeadHook2
import HandS.HeadHook3
import HandS.HeadHook4
import KE.GoesMore
import PyProof.Rows.TupDisplay
import KE.KxText
import HandS.Head0
import HandS.Head1
import HandS.Head2
import PySem.Challenge.RW_handmarks_k05_whole_told
set_option Elab.async false
set_option linter.all false
set_option maxRecDepth 100000
set_option maxHeartbeats 4000000
/-! D-layer 1: deep data over the hand layer. Tuples are values; mutable objects stand in an abstract heap. -/
namespace DD
open PySem PySem.Spec PyProof.Rows L2

/-! ### data -/
inductive D where
  | non | bl (b : Bool) | int (i : Int) | str (x : Str) | tup (ds : List D) | scr (ds : List D) | ty (n : String) | ref (a : Addr)
  deriving Inhabited

/-- a list that is read, never written: the script -/
def FzL (K : PySem.W.Frag) (H : Hp) (a : Addr) (xs : List V) : Prop :=
  (∃ o, H a = some (.frz o (.lst xs))) ∨
    ∃ (o : Obj) (its : Array Value) (n : Nat), K.lookup a = some o ∧ o.cls = .type "list" ∧ o.dict = none ∧ o.data = .seq its n ∧ its.size ≤ sizeLine ∧ Vals xs its.toList
theorem FzL.sq {K : PySem.W.Frag} {H : Hp} {a : Addr} {xs : List V} (h : FzL K H a xs) : SqL K H a xs := by
  rcases h with h | h
  · exact .inl (.inr h)
  · exact .inr h

mutual
inductive Den (K : PySem.W.Frag) (H : Hp) : D → V → Prop
  | non : Den K H .non .non
  | bl (b : Bool) : Den K H (.bl b) (.bl b)
  | int (i : Int) : Den K H (.int i) (.int i)
  | str (x : Str) (h : x.length ≤ sizeLine) : Den K H (.str x) (.str x)
  | tup {ds : List D} {a : Addr} {vs : List V} : SqT K H a vs → DenL K H ds vs → Den K H (.tup ds) (.ref a)
  | scr {ds : List D} {a : Addr} {vs : List V} : FzL K H a vs → DenL K H ds vs → Den K H (.scr ds) (.ref a)
  | ty (n : String) : Den K H (.ty n) (.ty n)
  | ref (a : Addr) : Den K H (.ref a) (.ref a)
inductive DenL (K : PySem.W.Frag) (H : Hp) : List D → List V → Prop
  | nil : DenL K H [] []
  | cons {d : D} {v : V} {ds : List D} {vs : List V} : Den K H d v → DenL K H ds vs → DenL K H (d :: ds) (v :: vs)
end

/-- tuples and read-only lists stand -/
structure Kp (K : PySem.W.Frag) (H H' : Hp) : Prop where
  tup : ∀ a xs, SqT K H a xs → SqT K H' a xs
  fz : ∀ a xs, FzL K H a xs → FzL K H' a xs
theorem Kp.refl {K : PySem.W.Frag} {H : Hp} : Kp K H H := ⟨fun _ _ h => h, fun _ _ h => h⟩
theorem Kp.trans {K : PySem.W.Frag} {H H1 H2 : Hp} (a : Kp K H H1) (b : Kp K H1 H2) : Kp K H H2 := ⟨fun c xs h => b.tup c xs (a.tup c xs h), fun c xs h => b.fz c xs (a.fz c xs h)⟩
theorem Kp.same {K : PySem.W.Frag} {H H' : Hp} (h : ∀ a xs, (H a = some (.tup xs) ∨ (∃ o u, H a = some (.frz o u))) → H' a = H a) : Kp K H H' := by
  refine ⟨fun a xs q => ?_, fun a xs q => ?_⟩
  · rcases q with (q | ⟨o, q⟩) | q
    · exact .inl (.inl ((h a xs (.inl q)).trans q))
    · exact .inl (.inr ⟨o, (h a xs (.inr ⟨o, _, q⟩)).trans q⟩)
    · exact .inr q
  · rcases q with ⟨o, q⟩ | q
    · exact .inl ⟨o, (h a xs (.inr ⟨o, _, q⟩)).trans q⟩
    · exact .inr q
mutual
theorem Den.mono {K : PySem.W.Frag} {H H' : Hp} (k : Kp K H H') : ∀ {d : D} {v : V}, Den K H d v → Den K H' d v
  | _, _, .non => .non
  | _, _, .bl b => .bl b
  | _, _, .int i => .int i
  | _, _, .str x h => .str x h
  | _, _, .tup h t => .tup (k.tup _ _ h) (DenL.mono k t)
  | _, _, .scr h t => .scr (k.fz _ _ h) (DenL.mono k t)
  | _, _, .ty n => .ty n
  | _, _, .ref a => .ref a
theorem DenL.mono {K : PySem.W.Frag} {H H' : Hp} (k : Kp K H H') : ∀ {ds : List D} {vs : List V}, DenL K H ds vs → DenL K H' ds vs
  | _, _, .nil => .nil
  | _, _, .cons h t => .cons (Den.mono k h) (DenL.mono k t)
end
section
variable {K : PySem.W.Frag} {H : Hp}
theorem DenL.length : ∀ {ds : List D} {vs : List V}, DenL K H ds vs → ds.length = vs.length
  | _, _, .nil => rfl
  | _, _, .cons _ t => congrArg (· + 1) (DenL.length t)
theorem DenL.get : ∀ {ds : List D} {vs : List V} {i : Nat} {d : D}, DenL K H ds vs → ds[i]? = some d → ∃ v, vs[i]? = some v ∧ Den K H d v
  | _, _, _, _, .nil, e => by simp at e
  | _, _, 0, _, .cons h _, e => by simp at e; subst e; exact ⟨_, rfl, h⟩
  | _, _, i + 1, d, .cons _ t, e => by
    obtain ⟨v, h1, h2⟩ := DenL.get (i := i) (d := d) t (by simpa using e)
    exact ⟨v, by simpa using h1, h2⟩
theorem DenL.getV : ∀ {ds : List D} {vs : List V} {i : Nat} {v : V}, DenL K H ds vs → vs[i]? = some v → ∃ d, ds[i]? = some d ∧ Den K H d v
  | _, _, _, _, .nil, e => by simp at e
  | _, _, 0, _, .cons h _, e => by simp at e; subst e; exact ⟨_, rfl, h⟩
  | _, _, i + 1, d, .cons _ t, e => by
    obtain ⟨v, h1, h2⟩ := DenL.getV (i := i) (v := d) t (by simpa using e)
    exact ⟨v, by simpa using h1, h2⟩
theorem DenL.append : ∀ {ds es : List D} {vs us : List V}, DenL K H ds vs → DenL K H es us → DenL K H (ds ++ es) (vs ++ us)
  | _, _, _, _, .nil, s => s
  | _, _, _, _, .cons h t, s => .cons h (DenL.append t s)
theorem DenL.take : ∀ {ds : List D} {vs : List V} (n : Nat), DenL K H ds vs → DenL K H (ds.take n) (vs.take n)
  | _, _, 0, _ => .nil
  | _, _, _ + 1, .nil => .nil
  | _, _, n + 1, .cons h t => .cons h (DenL.take n t)
theorem DenL.drop : ∀ {ds : List D} {vs : List V} (n : Nat), DenL K H ds vs → DenL K H (ds.drop n) (vs.drop n)
  | _, _, 0, r => r
  | _, _, _ + 1, .nil => .nil
  | _, _, n + 1, .cons _ t => DenL.drop n t
theorem DenL.set {d : D} {v : V} (r : Den K H d v) : ∀ {ds : List D} {vs : List V} (i : Nat), DenL K H ds vs → DenL K H (ds.set i d) (vs.set i v)
  | _, _, _, .nil => .nil
  | _, _, 0, .cons _ t => .cons r t
  | _, _, i + 1, .cons q t => .cons q (DenL.set r i t)
theorem DenL.eraseIdx : ∀ {ds : List D} {vs : List V} (i : Nat), DenL K H ds vs → DenL K H (ds.eraseIdx i) (vs.eraseIdx i)
  | _, _, _, .nil => .nil
  | _, _, 0, .cons _ t => t
  | _, _, i + 1, .cons q t => .cons q (DenL.eraseIdx i t)
theorem DenL.one {d : D} {v : V} (r : Den K H d v) : DenL K H [d] [v] := .cons r .nil
theorem DenL.reverse : ∀ {ds : List D} {vs : List V}, DenL K H ds vs → DenL K H ds.reverse vs.reverse
  | _, _, .nil => .nil
  | _, _, .cons h t => by
    rw [List.reverse_cons, List.reverse_cons]
    exact (DenL.reverse t).append (.one h)
theorem DenL.dropLast : ∀ {ds : List D} {vs : List V}, DenL K H ds vs → DenL K H ds.dropLast vs.dropLast := fun {ds vs} h => by
  rw [List.dropLast_eq_take, List.dropLast_eq_take, ← h.length]
  exact h.take _
theorem DenL.rep {ds : List D} {vs : List V} (h : DenL K H ds vs) : ∀ k : Nat, DenL K H (List.replicate k ds).flatten (List.replicate k vs).flatten
  | 0 => .nil
  | k + 1 => by
    rw [List.replicate_succ, List.replicate_succ, List.flatten_cons, List.flatten_cons]
    exact h.append (DenL.rep h k)
theorem DenL.inv1 {d : D} {vs : List V} (h : DenL K H [d] vs) : ∃ v, vs = [v] ∧ Den K H d v := by
  cases h with
  | cons a t => cases t; exact ⟨_, rfl, a⟩
theorem DenL.inv2 {d e : D} {vs : List V} (h : DenL K H [d, e] vs) : ∃ v u, vs = [v, u] ∧ Den K H d v ∧ Den K H e u := by
  cases h with
  | cons a t =>
    obtain ⟨u, rfl, b⟩ := t.inv1
    exact ⟨_, _, rfl, a, b⟩
theorem DenL.inv3 {d e f : D} {vs : List V} (h : DenL K H [d, e, f] vs) : ∃ v u x, vs = [v, u, x] ∧ Den K H d v ∧ Den K H e u ∧ Den K H f x := by
  cases h with
  | cons a t =>
    obtain ⟨u, x, rfl, b, c⟩ := t.inv2
    exact ⟨_, _, _, rfl, a, b, c⟩
end

/-! ### keys: data without objects, up to == -/
mutual
def keyD : D → NestedKey
  | .non => .none
  | .bl b => .num (if b then 1 else 0)
  | .int i => .num i
  | .str x => .text x
  | .tup ds => .tup (keyDs ds)
  | .scr _ => .none
  | .ty _ => .none
  | .ref _ => .none
def keyDs : List D → List NestedKey
  | [] => []
  | d :: ds => keyD d :: keyDs ds
end
mutual
/-- no object within -/
def flat : D → Bool
  | .scr _ => false
  | .ty _ => false
  | .ref _ => false
  | .tup ds => flats ds
  | _ => true
def flats : List D → Bool
  | [] => true
  | d :: ds => flat d && flats ds
end
mutual
theorem Den.nested {X : Cx} {pins : List (Addr × Obj)} {σ : L2.St} {H : Hp} {s : Shared} (I : Inv X pins σ H s) : ∀ (d : D) {v : V} {u : Value}, Den X.K H d v → RelV v u → flat d = true → NestedIs s.heap (keyD d) u
  | .non, _, _, h, r, _ => by cases h; cases r; exact .none
  | .bl b, _, _, h, r, _ => by cases h; cases r; exact .bool rfl
  | .int i, _, _, h, r, _ => by cases h; obtain ⟨t, rfl⟩ := r; exact .int i t
  | .str x, _, _, h, r, _ => by cases h; obtain ⟨t, rfl⟩ := r; exact .text x t
  | .tup ds, _, _, h, r, f => by
    cases h with
    | tup hq hl =>
      cases r
      obtain ⟨its, rv, ⟨o, ho, hc, n, hd⟩, _⟩ := I.tuple hq
      exact .tup ho hc hd (by simpa using DenL.nested I ds hl rv (by simpa [flat] using f))
  | .scr _, _, _, _, _, f => by cases f
  | .ty _, _, _, _, _, f => by cases f
  | .ref _, _, _, _, _, f => by cases f
theorem DenL.nested {X : Cx} {pins : List (Addr × Obj)} {σ : L2.St} {H : Hp} {s : Shared} (I : Inv X pins σ H s) : ∀ (ds : List D) {vs : List V} {us : List Value}, DenL X.K H ds vs → Vals vs us → flats ds = true → NestedAll s.heap (keyDs ds) us
  | [], _, _, h, r, _ => by cases h; cases r; exact .nil
  | d :: ds, _, _, h, r, f => by
    cases h with
    | cons h1 h2 =>
      cases r with
      | cons r1 r2 =>
        rw [flats, Bool.and_eq_true] at f
        exact .cons (Den.nested I d h1 r1 f.1) (DenL.nested I ds h2 r2 f.2)
end

/-! ### the abstract heap of mutable objects -/
inductive O where
  | lst (ds : List D)
  | dct (es : List (D × D))
  | ins (C : Addr) (fs : List (Str × D))
abbrev DG := Addr → Option O
def gup (G : DG) (a : Addr) (o : O) : DG := fun b => if b = a then some o else G b
def g0 : DG := fun _ => none
@[simp] theorem gup_same {G : DG} {a : Addr} {o : O} : gup G a o a = some o := by unfold gup; rw [if_pos rfl]
theorem gup_ne {G : DG} {a b : Addr} {o : O} (h : b ≠ a) : gup G a o b = G b := by unfold gup; rw [if_neg h]
@[simp] theorem gup_gup {G : DG} {a : Addr} {o u : O} : gup (gup G a o) a u = gup G a u := by funext b; unfold gup; split <;> rfl
theorem gup_none {G : DG} {a b : Addr} {o : O} : gup G a o b = none ↔ b ≠ a ∧ G b = none := by
  by_cases h : b = a
  · subst h; simp
  · simp [gup_ne h, h]

/-- a dict's very entries -/
def DictRaw (a : Addr) (raw : List DictEntry) (h : Heap) : Prop := ∃ (o : Obj) (es : Array DictEntry) (ep : Nat), h.get? a = some o ∧ o.ExactDict ∧ o.data = .dict es ep ∧ es.toList = raw
def dictO (a : Addr) (raw : List DictEntry) : HO := .ext (DictRaw a raw)
/-- one entry -/
structure EntR (K : PySem.W.Frag) (w : World) (H : Hp) (p : D × D) (e : DictEntry) : Prop where
  hash : e.hash = (keyD p.1).hash w
  key : ∃ v, RelV v e.key ∧ Den K H p.1 v
  val : ∃ v, RelV v e.val ∧ Den K H p.2 v
  flat : flat p.1 = true
  shallow : (keyD p.1).depth ≤ 8
def FldR (K : PySem.W.Frag) (H : Hp) (p : Str × D) (q : Str × V) : Prop := p.1 = q.1 ∧ Den K H p.2 q.2
def ObjR (K : PySem.W.Frag) (w : World) (H : Hp) (a : Addr) : O → Prop
  | .lst ds => ∃ vs, H a = some (.lst vs) ∧ DenL K H ds vs
  | .dct es => (a == sysModules) = false ∧ (es.map fun p => keyD p.1).Nodup ∧ ∃ raw, H a = some (dictO a raw) ∧ Paired (EntR K w H) es raw
  | .ins C fs => ∃ dx vfs, H a = some (.ins C dx vfs) ∧ Paired (FldR K H) fs vfs
def AbsG (K : PySem.W.Frag) (w : World) (H : Hp) (G : DG) : Prop := ∀ a o, G a = some o → ObjR K w H a o
section
variable {K : PySem.W.Frag} {w : World} {H H' : Hp} {G G' : DG} {a p : Addr} {o : O}
theorem ObjR.some (h : ObjR K w H a o) : ∃ u, H a = some u ∧ (∀ xs, u ≠ .tup xs) ∧ ∀ b x, u ≠ .frz b x := by
  cases o with
  | lst ds => obtain ⟨vs, e, _⟩ := h; exact ⟨_, e, (fun _ z => nomatch z), fun _ _ z => nomatch z⟩
  | dct es => obtain ⟨_, _, raw, e, _⟩ := h; exact ⟨_, e, (fun _ z => nomatch z), fun _ _ z => nomatch z⟩
  | ins C fs => obtain ⟨dx, vfs, e, _⟩ := h; exact ⟨_, e, (fun _ z => nomatch z), fun _ _ z => nomatch z⟩
theorem ObjR.mono (h : ObjR K w H a o) (k : Kp K H H') (e : H' a = H a) : ObjR K w H' a o := by
  cases o with
  | lst ds => obtain ⟨vs, q, r⟩ := h; exact ⟨vs, e.trans q, r.mono k⟩
  | dct es =>
    obtain ⟨ns, nd, raw, q, r⟩ := h
    refine ⟨ns, nd, raw, e.trans q, Paired.mapP r fun p x z => ⟨z.hash, ?_, ?_, z.flat, z.shallow⟩⟩
    · obtain ⟨v, r1, r2⟩ := z.key; exact ⟨v, r1, r2.mono k⟩
    · obtain ⟨v, r1, r2⟩ := z.val; exact ⟨v, r1, r2.mono k⟩
  | ins C fs => obtain ⟨dx, vfs, q, r⟩ := h; exact ⟨dx, vfs, e.trans q, Paired.mapP r fun p x z => ⟨z.1, z.2.mono k⟩⟩
theorem AbsG.isSome (A : AbsG K w H G) (e : G a = some o) : H a ≠ none := by
  obtain ⟨u, q, _⟩ := (A a o e).some
  rw [q]; simp
theorem AbsG.none (A : AbsG K w H G) (e : H a = none) : G a = none := by
  cases q : G a with
  | none => rfl
  | some o => exact absurd e (A.isSome q)
theorem AbsG.empty : AbsG K w H g0 := fun _ _ e => nomatch e

/-- from one state to a later one: what G does not tell stands, G' tells rightly, and tells nothing anew of what was there -/
structure Step (K : PySem.W.Frag) (w : World) (H : Hp) (G : DG) (H' : Hp) (G' : DG) : Prop where
  hid : ∀ a o, H a = some o → G a = none → H' a = some o
  abs : AbsG K w H' G'
  new : ∀ a, H a ≠ none → G a = none → G' a = none
theorem Step.kp (s : Step K w H G H' G') (A : AbsG K w H G) : Kp K H H' := by
  refine .same fun a xs q => ?_
  have n : G a = Option.none := by
    cases e : G a with
    | none => rfl
    | some o =>
      obtain ⟨u, hu, h1, h2⟩ := (A a o e).some
      rcases q with q | ⟨ob, x, q⟩
      · rw [q] at hu; cases hu; exact absurd rfl (h1 _)
      · rw [q] at hu; cases hu; exact absurd rfl (h2 _ _)
  rcases q with q | ⟨ob, x, q⟩
  · rw [q]; exact s.hid a _ q n
  · rw [q]; exact s.hid a _ q n
theorem Step.refl (A : AbsG K w H G) : Step K w H G H G := ⟨fun _ _ h _ => h, A, fun _ _ h => h⟩
theorem Step.trans {H2 : Hp} {G2 : DG} (s : Step K w H G H' G') (t : Step K w H' G' H2 G2) : Step K w H G H2 G2 :=
  ⟨fun a o h n => t.hid a o (s.hid a o h n) (s.new a (by rw [h]; simp) n), t.abs, fun a h n => by
    cases e : H a with
    | none => exact absurd e h
    | some o => exact t.new a (by rw [s.hid a o e n]; simp) (s.new a h n)⟩
theorem Kp.alloc {u : HO} (e : H p = none) : Kp K H (upd H p u) := by
  refine .same fun a xs q => ?_
  have ne : a ≠ p := by
    rintro rfl
    rcases q with q | ⟨_, _, q⟩
    · rw [q] at e; cases e
    · rw [q] at e; cases e
  rw [upd_ne ne]
/-- a new object that is not told: a tuple -/
theorem Step.hidden {u : HO} (A : AbsG K w H G) (e : H p = none) : Step K w H G (upd H p u) G := by
  refine ⟨fun a o h n => ?_, fun a o h => ?_, fun _ _ h => h⟩
  · rw [upd_ne (ne_of_none h e)]; exact h
  · refine (A a o h).mono (.alloc e) ?_
    rw [upd_ne (fun z => A.isSome h (by rw [z]; exact e))]
/-- a new object -/
theorem Step.alloc {u : HO} (A : AbsG K w H G) (e : H p = none) (r : ObjR K w (upd H p u) p o) : Step K w H G (upd H p u) (gup G p o) := by
  refine ⟨fun a o h n => ?_, fun a o' h => ?_, fun a h n => ?_⟩
  · rw [upd_ne (ne_of_none h e)]; exact h
  · by_cases z : a = p
    · subst z; rw [gup_same] at h; cases h; exact r
    · rw [gup_ne z] at h
      exact (A a o' h).mono (.alloc e) (by rw [upd_ne z])
  · rw [gup_ne (fun z => h (by rw [z]; exact e))]; exact n
theorem Kp.write {o0 : O} {u : HO} (A : AbsG K w H G) (e : G p = some o0) : Kp K H (upd H p u) := by
  refine .same fun a xs q => ?_
  have ne : a ≠ p := by
    rintro rfl
    obtain ⟨u, hu, h1, h2⟩ := (A a o0 e).some
    rcases q with q | ⟨_, _, q⟩
    · rw [q] at hu; cases hu; exact absurd rfl (h1 _)
    · rw [q] at hu; cases hu; exact absurd rfl (h2 _ _)
  rw [upd_ne ne]
/-- an object that is told is changed -/
theorem Step.write {o0 : O} {u : HO} (A : AbsG K w H G) (e : G p = some o0) (r : ObjR K w (upd H p u) p o) : Step K w H G (upd H p u) (gup G p o) := by
  refine ⟨fun a o h n => ?_, fun a o' h => ?_, fun a h n => ?_⟩
  · rw [upd_ne (fun z => by rw [z, e] at n; cases n)]; exact h
  · by_cases z : a = p
    · subst z; rw [gup_same] at h; cases h; exact r
    · rw [gup_ne z] at h
      exact (A a o' h).mono (.write A e) (by rw [upd_ne z])
  · rw [gup_ne (fun z => by rw [z, e] at n; cases n)]; exact n
/-- G0 tells a part of G -/
def Sub (G0 G : DG) : Prop := ∀ a o, G0 a = some o → G a = some o
theorem AbsG.sub {G0 : DG} (A : AbsG K w H G) (h : Sub G0 G) : AbsG K w H G0 := fun a o e => A a o (h a o e)
open Classical in
noncomputable def mrg (G0 G G1 : DG) : DG := fun a => match G1 a with
  | some o => some o
  | none => if G0 a = none then G a else none
/-- the frame rule -/
theorem Step.frame {G0 G1 : DG} (A : AbsG K w H G) (h : Sub G0 G) (s : Step K w H G0 H' G1) : Step K w H G H' (mrg G0 G G1) := by
  have kp := s.kp (A.sub h)
  have sub0 : ∀ a, G a = Option.none → G0 a = Option.none := fun a n => by
    cases q : G0 a with
    | none => rfl
    | some o => rw [h a o q] at n; cases n
  refine ⟨fun a o e n => s.hid a o e (sub0 a n), fun a o e => ?_, fun a e n => ?_⟩
  · unfold mrg at e
    cases q : G1 a with
    | some o' => rw [q] at e; cases e; exact s.abs a _ q
    | none =>
      rw [q] at e
      by_cases z : G0 a = Option.none
      · simp only [z, if_true] at e
        obtain ⟨u, hu, _⟩ := (A a o e).some
        exact (A a o e).mono kp ((s.hid a u hu z).trans hu.symm)
      · simp only [z, if_false] at e; cases e
  · have z := sub0 a n
    unfold mrg
    rw [s.new a e z]
    simp only [z, if_true]
    exact n
/-- all is told as it was -/
theorem Step.pure {G1 : DG} (A : AbsG K w H G) (s : Step K w H g0 H' G1) : Step K w H G H' G := by
  refine ⟨fun a o e _ => s.hid a o e rfl, fun a o e => ?_, fun _ _ n => n⟩
  obtain ⟨u, hu, _⟩ := (A a o e).some
  exact (A a o e).mono (s.kp .empty) ((s.hid a u hu rfl).trans hu.symm)
theorem Step.pureNew {G1 : DG} {p : Addr} {o : O} (A : AbsG K w H G) (s : Step K w H g0 H' G1) (e : G1 p = some o) : G p = none ∧ Step K w H G H' (gup G p o) := by
  have np : H p = Option.none := by
    cases q : H p with
    | none => rfl
    | some u => have z := s.new p (by rw [q]; simp) rfl; rw [z] at e; cases e
  refine ⟨A.none np, fun a o e _ => s.hid a o e rfl, fun a o' e' => ?_, fun a h n => ?_⟩
  · by_cases z : a = p
    · subst z; rw [gup_same] at e'; cases e'; exact s.abs _ _ e
    · rw [gup_ne z] at e'
      obtain ⟨u, hu, _⟩ := (A a o' e').some
      exact (A a o' e').mono (s.kp .empty) ((s.hid a u hu rfl).trans hu.symm)
  · rw [gup_ne (fun z => h (by rw [z]; exact np))]; exact n
theorem Step.forget {G2 : DG} (s : Step K w H G H' G') (h : Sub G2 G') : Step K w H G H' G2 :=
  ⟨s.hid, s.abs.sub h, fun a e n => by
    cases q : G2 a with
    | none => rfl
    | some o =>
      have z := h a o q
      rw [s.new a e n] at z
      cases z⟩
end
end DD

/-! D-layer 2: judgements with deep readings -/
namespace DD
open PySem PySem.Spec PyProof.Rows L2

abbrev DSt := List (Option D)
abbrev DK := D → DG → Prop
abbrev DTE := DSt → DG → DK → Prop
abbrev DTT := DSt → DG → (Bool → DG → Prop) → Prop
abbrev DTA := DSt → DG → (List D → DG → Prop) → Prop
structure DEnds where
  nx : DSt → DG → Prop
  rt : DK
  bk : DSt → DG → Prop := fun _ _ => False
  ct : DSt → DG → Prop := fun _ _ => False
abbrev DTS := DEnds → DSt → DG → Prop
abbrev DTG := D → DSt → DG → (DSt → DG → Prop) → Prop
abbrev DTI := DSt → DG → (List D → (DG → Prop) → DG → Prop) → Prop
/-- what an exception's class and the heap are wanted to be -/
abbrev DX := Addr → DG → Prop
abbrev DSp := List D → DG → DK → DX → Prop

/-- the slots -/
structure DenS (K : PySem.W.Frag) (H : Hp) (δ : DSt) (σ : L2.St) : Prop where
  len : δ.length = σ.length
  get : ∀ (i : Nat) (d : D), δ[i]? = some (some d) → ∃ v, σ[i]? = some (some v) ∧ Den K H d v
theorem DenS.mono {K : PySem.W.Frag} {H H' : Hp} {δ : DSt} {σ : L2.St} (h : DenS K H δ σ) (k : Kp K H H') : DenS K H' δ σ :=
  ⟨h.len, fun i d e => let ⟨v, a, b⟩ := h.get i d e; ⟨v, a, b.mono k⟩⟩
theorem DenS.set {K : PySem.W.Frag} {H : Hp} {δ : DSt} {σ : L2.St} {d : D} {v : V} (h : DenS K H δ σ) (r : Den K H d v) (i : Nat) : DenS K H (δ.set i (some d)) (σ.set i (some v)) := by
  refine ⟨by simp [h.len], fun j e q => ?_⟩
  by_cases z : i = j
  · subst z
    by_cases l : i < δ.length
    · rw [List.getElem?_set_self l] at q
      cases q
      exact ⟨v, by rw [List.getElem?_set_self (by rw [← h.len]; exact l)], r⟩
    · rw [List.getElem?_eq_none (by simpa using l)] at q; cases q
  · rw [List.getElem?_set_ne z] at q
    rw [List.getElem?_set_ne z]
    exact h.get j e q
def dwipe (δ : DSt) : List Nat → DSt
  | [] => δ
  | v :: vs => (dwipe δ vs).set v none
theorem DenS.wipe {K : PySem.W.Frag} {H : Hp} {δ : DSt} {σ : L2.St} (h : DenS K H δ σ) : ∀ vs : List Nat, DenS K H (dwipe δ vs) (L2.wipe σ vs)
  | [] => h
  | v :: vs => by
    have ih := DenS.wipe h vs
    refine ⟨by simp [dwipe, L2.wipe, ih.len], fun j e q => ?_⟩
    unfold dwipe at q
    unfold L2.wipe
    by_cases z : v = j
    · subst z
      by_cases l : v < (dwipe δ vs).length
      · rw [List.getElem?_set_self l] at q; cases q
      · rw [List.getElem?_eq_none (by simpa using l)] at q; cases q
    · rw [List.getElem?_set_ne z] at q
      rw [List.getElem?_set_ne z]
      exact ih.get j e q

/-- where one is: closed under steps -/
structure Rg (K : PySem.W.Frag) (w : World) where
  R : Hp → DG → Prop
  cl : ∀ {H G H' G'}, R H G → Step K w H G H' G' → R H' G'
def Rg.top (K : PySem.W.Frag) (w : World) : Rg K w := ⟨fun _ _ => True, fun _ _ => trivial⟩
def Rg.from (K : PySem.W.Frag) (w : World) (H0 : Hp) (G0 : DG) : Rg K w := ⟨Step K w H0 G0, fun a b => a.trans b⟩

section
variable {K : PySem.W.Frag} {w : World} (ρ : Rg K w)
structure Ab (H : Hp) (G : DG) : Prop where
  abs : AbsG K w H G
  reg : ρ.R H G
variable {ρ} in
theorem Ab.step {H H' : Hp} {G G' : DG} (a : Ab ρ H G) (s : Step K w H G H' G') : Ab ρ H' G' := ⟨s.abs, ρ.cl a.reg s⟩
variable {ρ} in
theorem Ab.kp {H H' : Hp} {G G' : DG} (a : Ab ρ H G) (s : Step K w H G H' G') : Kp K H H' := s.kp a.abs
variable {ρ} in
theorem Ab.same {H : Hp} {G : DG} (a : Ab ρ H G) : Step K w H G H G := .refl a.abs
def lE (T : DTE) : TE := fun σ H Q => ∃ δ G R, Ab ρ H G ∧ DenS K H δ σ ∧ T δ G R ∧ ∀ d G' v H', R d G' → Step K w H G H' G' → Den K H' d v → Q v H'
def lT (T : DTT) : TT := fun σ H Q => ∃ δ G R, Ab ρ H G ∧ DenS K H δ σ ∧ T δ G R ∧ ∀ b G' H', R b G' → Step K w H G H' G' → Q b H'
def lA (n : Nat) (T : DTA) : TA := fun σ H Q => ∃ δ G R, Ab ρ H G ∧ DenS K H δ σ ∧ T δ G R ∧ ∀ ds G' vs H', R ds G' → Step K w H G H' G' → DenL K H' ds vs → ds.length = n → Q vs H'
def lS (T : DTS) : TS := fun D σ H => ∃ δ G E, Ab ρ H G ∧ DenS K H δ σ ∧ T E δ G ∧
  (∀ δ' G' σ' H', E.nx δ' G' → Step K w H G H' G' → DenS K H' δ' σ' → D.nx σ' H') ∧
  (∀ d G' v H', E.rt d G' → Step K w H G H' G' → Den K H' d v → D.rt v H') ∧
  (∀ δ' G' σ' H', E.bk δ' G' → Step K w H G H' G' → DenS K H' δ' σ' → D.bk σ' H') ∧
  (∀ δ' G' σ' H', E.ct δ' G' → Step K w H G H' G' → DenS K H' δ' σ' → D.ct σ' H')
def lG (vs : List Nat) (T : DTG) : TG := fun v σ H Q => ∃ d δ G R, Ab ρ H G ∧ DenS K H δ σ ∧ Den K H d v ∧ T d δ G R ∧ ∀ δ' G' σ' H', R δ' G' → Step K w H G H' G' → DenS K H' δ' σ' → L2.wipe σ' vs = L2.wipe σ vs → Q σ' H'
/-- several targets -/
abbrev DTGs := List D → DSt → DG → (DSt → DG → Prop) → Prop
def lGs (vs : List Nat) (T : DTGs) : TGs := fun v σ H Q => ∃ d δ G R, Ab ρ H G ∧ DenS K H δ σ ∧ DenL K H d v ∧ T d δ G R ∧ ∀ δ' G' σ' H', R δ' G' → Step K w H G H' G' → DenS K H' δ' σ' → L2.wipe σ' vs = L2.wipe σ vs → Q σ' H'
/-- an iterator walks ds while chk holds -/
def ItJ (K : PySem.W.Frag) (w : World) (H0 : Hp) (ds : List D) (chk : DG → Prop) (J : It) : Prop :=
  ∃ (Gd : Hp → Prop) (Y : Nat → Hp → V → Hp → Prop), Walk J ds.length Gd Y ∧ ds.length ≤ sizeLine ∧ (∀ H G, Kp K H0 H → AbsG K w H G → chk G → Gd H) ∧
    ∀ i H x H' G, Kp K H0 H → AbsG K w H G → chk G → Gd H → i < ds.length → Y i H x H' → ∃ d, ds[i]? = some d ∧ Step K w H G H' G ∧ Den K H' d x
def lI (T : DTI) : TI := fun σ H R' => ∃ δ G R, Ab ρ H G ∧ DenS K H δ σ ∧ T δ G R ∧ ∀ ds chk G' J H', R ds chk G' → Step K w H G H' G' → ItJ K w H' ds chk J → R' J H'
end

section
variable (X : Cx) (ρ : Rg X.K X.w)
def DE (e : Expr) (T : DTE) : Prop := PE X e (lE ρ T)
def DT (e : Expr) (T : DTT) : Prop := PT X e (lT ρ T)
def DW (e : Expr) (T : DTT) : Prop := PW X e (lT ρ T)
def DA (es : List Expr) (T : DTA) : Prop := PA X es (lA ρ es.length T)
def DS (st : Stmt) (T : DTS) : Prop := PS X st (lS ρ T)
def DSs (st : List Stmt) (T : DTS) : Prop := PSs X st (lS ρ T)
def DGt (vs : List Nat) (tg : Expr) (T : DTG) : Prop := PG X tg (lG ρ vs T)
def DGts (vs : List Nat) (tgs : List Expr) (T : DTGs) : Prop := PGs X tgs (lGs ρ vs T)
def DI (tg iter : Expr) (T : DTI) : Prop := PI X tg iter (lI ρ T)
def DTs (ifs : List Expr) (T : DTT) : Prop := PTs X ifs (lT ρ T)
end

/-! ### consequence -/
theorem _root_.L2.PE.imp {X : Cx} {e : Expr} {t t' : TE} (h : PE X e t) (i : ∀ σ H Q, t' σ H Q → t σ H Q) : PE X e t' := ⟨fun pins s σ H Q I q => h.run pins s σ H Q I (i σ H Q q)⟩
theorem _root_.L2.PT.imp {X : Cx} {e : Expr} {t t' : TT} (h : PT X e t) (i : ∀ σ H Q, t' σ H Q → t σ H Q) : PT X e t' := ⟨fun pins s σ H Q I q => h.run pins s σ H Q I (i σ H Q q)⟩
theorem _root_.L2.PW.imp {X : Cx} {e : Expr} {t t' : TT} (h : PW X e t) (i : ∀ σ H Q, t' σ H Q → t σ H Q) : PW X e t' := ⟨fun wh pins s σ H Q I q => h.run wh pins s σ H Q I (i σ H Q q)⟩
theorem _root_.L2.PA.imp {X : Cx} {e : List Expr} {t t' : TA} (h : PA X e t) (i : ∀ σ H Q, t' σ H Q → t σ H Q) : PA X e t' := ⟨fun pos pins s σ H Q I q => h.run pos pins s σ H Q I (i σ H Q q)⟩
theorem _root_.L2.PS.imp {X : Cx} {e : Stmt} {t t' : TS} (h : PS X e t) (i : ∀ D σ H, t' D σ H → t D σ H) : PS X e t' := ⟨fun pins s σ H D I q => h.run pins s σ H D I (i D σ H q)⟩
theorem _root_.L2.PSs.imp {X : Cx} {e : List Stmt} {t t' : TS} (h : PSs X e t) (i : ∀ D σ H, t' D σ H → t D σ H) : PSs X e t' := ⟨fun pins s σ H D I q => h.run pins s σ H D I (i D σ H q)⟩
theorem _root_.L2.PG.imp {X : Cx} {e : Expr} {t t' : TG} (h : PG X e t) (i : ∀ v σ H Q, t' v σ H Q → t v σ H Q) : PG X e t' := ⟨fun pins s σ H v u Q I r q => h.run pins s σ H v u Q I r (i v σ H Q q)⟩
theorem _root_.L2.PGs.imp {X : Cx} {e : List Expr} {t t' : TGs} (h : PGs X e t) (i : ∀ v σ H Q, t' v σ H Q → t v σ H Q) : PGs X e t' := ⟨fun pins s σ H v u Q I r q => h.run pins s σ H v u Q I r (i v σ H Q q)⟩
theorem _root_.L2.PI.imp {X : Cx} {tg e : Expr} {t t' : TI} (h : PI X tg e t) (i : ∀ σ H R, t' σ H R → t σ H R) : PI X tg e t' := ⟨fun pins s σ H R I q => h.run pins s σ H R I (i σ H R q)⟩
theorem _root_.L2.PTs.imp {X : Cx} {e : List Expr} {t t' : TT} (h : PTs X e t) (i : ∀ σ H Q, t' σ H Q → t σ H Q) : PTs X e t' := ⟨fun pins s σ H Q I q => h.run pins s σ H Q I (i σ H Q q)⟩

def ob {α : Type} (o : Option α) (k : α → Prop) : Prop := match o with | some a => k a | none => False
theorem ob_some {α : Type} {a : α} {k : α → Prop} : ob (some a) k = k a := rfl
theorem ob_iff {α : Type} {o : Option α} {k : α → Prop} : ob o k ↔ ∃ a, o = some a ∧ k a := by
  cases o with
  | none => exact ⟨fun h => h.elim, fun ⟨_, h, _⟩ => nomatch h⟩
  | some a => exact ⟨fun h => ⟨a, rfl, h⟩, fun ⟨_, h, q⟩ => by cases h; exact q⟩

section
variable {X : Cx} {ρ : Rg X.K X.w} {a b c e : Expr} {Ta Tb Tc : DTE} {pos : Pos}

/-! ### names, constants -/
def dVar (i : Nat) : DTE := fun δ G Q => match δ[i]? with | some (some d) => Q d G | _ => False
theorem de_var {i : Nat} {x : Str} (h : PE X (.Name x pos) (tVar i)) : DE X ρ (.Name x pos) (dVar i) := by
  refine h.imp fun σ H Q ⟨δ, G, R, ab, ds, t, k⟩ => ?_
  unfold dVar at t
  split at t
  · rename_i d e
    obtain ⟨v, e2, r⟩ := ds.get i d e
    exact ⟨v, e2, k d G v H t ab.same r⟩
  · exact t.elim
def dC (d : D) : DTE := fun _ G Q => Q d G
theorem de_of {e : Expr} {d : D} {v : V} (h : PE X e (tC v)) (r : ∀ H, Den X.K H d v) : DE X ρ e (dC d) :=
  h.imp fun σ H Q ⟨δ, G, R, ab, ds, t, k⟩ => k d G v H t ab.same (r H)
theorem de_int {i j} : DE X ρ (.Constant (.int i) j pos) (dC (.int i)) := de_of pe_int fun _ => .int i
theorem de_bl {b j} : DE X ρ (.Constant (.bool b) j pos) (dC (.bl b)) := de_of pe_bl fun _ => .bl b
theorem de_non {j} : DE X ρ (.Constant .none j pos) (dC .non) := de_of pe_non fun _ => .non
theorem de_str {x j} (h : x.length ≤ sizeLine := by decide +kernel) : DE X ρ (.Constant (.str x) j pos) (dC (.str x)) := de_of pe_str fun _ => .str x h

/-! ### operators -/
abbrev DR2 := D → D → DG → DK → Prop
abbrev DR1 := D → DG → DK → Prop
abbrev DRC := List D → DG → DK → Prop
def lR2 (K : PySem.W.Frag) (w : World) (r : DR2) : R2 := fun x y H Q => ∃ d e G R, AbsG K w H G ∧ Den K H d x ∧ Den K H e y ∧ r d e G R ∧ ∀ z G' v H', R z G' → Step K w H G H' G' → Den K H' z v → Q v H'
def lR1 (K : PySem.W.Frag) (w : World) (r : DR1) : V → Hp → VK → Prop := fun x H Q => ∃ d G R, AbsG K w H G ∧ Den K H d x ∧ r d G R ∧ ∀ z G' v H', R z G' → Step K w H G H' G' → Den K H' z v → Q v H'
def lRC (K : PySem.W.Frag) (w : World) (r : DRC) : List V → Hp → VK → Prop := fun xs H Q => ∃ ds G R, AbsG K w H G ∧ DenL K H ds xs ∧ r ds G R ∧ ∀ z G' v H', R z G' → Step K w H G H' G' → Den K H' z v → Q v H'
def OpD (X : Cx) (f : Value → Value → Sem Value) (r : DR2) : Prop := OpR X f (lR2 X.K X.w r)
def UnD (X : Cx) (f : Value → Sem Value) (r : DR1) : Prop := UnR X f (lR1 X.K X.w r)
def CallD (X : Cx) (f : Value) (r : DRC) : Prop := CallR X f (lRC X.K X.w r)
def dOp (r : DR2) (Ta Tb : DTE) : DTE := fun δ G Q => Ta δ G fun x G1 => Tb δ G1 fun y G2 => r x y G2 Q
def dUn (r : DR1) (Ta : DTE) : DTE := fun δ G Q => Ta δ G fun x G1 => r x G1 Q
theorem lOp {r : DR2} {σ : L2.St} {H : Hp} {Q : VK} (h : lE ρ (dOp r Ta Tb) σ H Q) : tOp (lR2 X.K X.w r) (lE ρ Ta) (lE ρ Tb) σ H Q := by
  obtain ⟨δ, G, R, ab, ds, t, k⟩ := h
  refine ⟨δ, G, _, ab, ds, t, fun x G1 v H1 t1 s1 r1 => ?_⟩
  refine ⟨δ, G1, _, ab.step s1, ds.mono (ab.kp s1), t1, fun y G2 u H2 t2 s2 r2 => ?_⟩
  exact ⟨x, y, G2, R, s2.abs, r1.mono ((ab.step s1).kp s2), r2, t2, fun z G' v' H' q s3 r3 => k z G' v' H' q ((s1.trans s2).trans s3) r3⟩
theorem lUn {r : DR1} {σ : L2.St} {H : Hp} {Q : VK} (h : lE ρ (dUn r Ta) σ H Q) : tUn (lR1 X.K X.w r) (lE ρ Ta) σ H Q := by
  obtain ⟨δ, G, R, ab, ds, t, k⟩ := h
  refine ⟨δ, G, _, ab, ds, t, fun x G1 v H1 t1 s1 r1 => ?_⟩
  exact ⟨x, G1, R, s1.abs, r1, t1, fun z G' v' H' q s3 r3 => k z G' v' H' q (s1.trans s3) r3⟩
theorem de_op {op : Operator} {r : DR2} (ho : OpD X (binaryOp op) r) (ha : DE X ρ a Ta) (hb : DE X ρ b Tb) : DE X ρ (.BinOp a op b pos) (dOp r Ta Tb) :=
  L2.PE.imp (pe_op ho ha hb) fun _ _ _ h => lOp h
theorem de_un {op : UnaryOp} {r : DR1} (ho : UnD X (unaryOp op) r) (ha : DE X ρ a Ta) : DE X ρ (.UnaryOp op a pos) (dUn r Ta) :=
  L2.PE.imp (pe_un ho ha) fun _ _ _ h => lUn h
theorem de_cmp {op : CmpOp} {r : DR2} (ho : OpD X (compareOp op) r) (ha : DE X ρ a Ta) (hb : DE X ρ b Tb) (hm : behindInMarks op b = false) : DE X ρ (.Compare a [op] [b] pos) (dOp r Ta Tb) :=
  L2.PE.imp (pe_cmpR ho ha hb hm) fun _ _ _ h => lOp h
/-- a test of an expression that gives a truth -/
def dTB (T : DTE) : DTT := fun δ G Q => T δ G fun d G1 => match d with | .bl b => Q b G1 | _ => False
theorem lTB {T : DTE} {t : TE} {σ : L2.St} {H : Hp} {Q : Bool → Hp → Prop} (h : lT ρ (dTB T) σ H Q) (i : ∀ Q', lE ρ T σ H Q' → t σ H Q') : t σ H (fun x H' => ∃ k, x = .bl k ∧ Q k H') := by
  obtain ⟨δ, G, R, ab, ds, t1, k⟩ := h
  refine i _ ⟨δ, G, _, ab, ds, t1, fun d G' v H' q s r => ?_⟩
  split at q
  · rename_i b
    cases r
    exact ⟨b, rfl, k b G' H' q s⟩
  · exact q.elim
theorem dt_cmp {op : CmpOp} {r : DR2} (ho : OpD X (compareOp op) r) (ha : DE X ρ a Ta) (hb : DE X ρ b Tb) (hm : behindInMarks op b = false) : DT X ρ (.Compare a [op] [b] pos) (dTB (dOp r Ta Tb)) :=
  L2.PT.imp (pt_cmpR ho ha hb hm) fun _ _ _ h => lTB h fun _ => lOp
/-- a op b op c -/
def dChain (r r' : DR2) (Ta Tb Tc : DTE) : DTE := fun δ G Q => Ta δ G fun x G1 => Tb δ G1 fun y G2 => r x y G2 fun z G3 => match z with
  | .bl true => Tc δ G3 fun u G4 => r' y u G4 Q
  | .bl false => Q (.bl false) G3
  | _ => False
theorem lChain {r r' : DR2} {σ : L2.St} {H : Hp} {Q : VK} (h : lE ρ (dChain r r' Ta Tb Tc) σ H Q) : tChain (lR2 X.K X.w r) (lR2 X.K X.w r') (lE ρ Ta) (lE ρ Tb) (lE ρ Tc) σ H Q := by
  obtain ⟨δ, G, R, ab, ds, t, k⟩ := h
  refine ⟨δ, G, _, ab, ds, t, fun x G1 v H1 t1 s1 r1 => ?_⟩
  refine ⟨δ, G1, _, ab.step s1, ds.mono (ab.kp s1), t1, fun y G2 u H2 t2 s2 r2 => ?_⟩
  have s12 := s1.trans s2
  refine ⟨x, y, G2, _, s2.abs, r1.mono ((ab.step s1).kp s2), r2, t2, fun z G3 vz H3 t3 s3 r3 => ?_⟩
  split at t3
  · cases r3
    refine ⟨true, rfl, ?_⟩
    rw [if_pos rfl]
    have s123 := s12.trans s3
    refine ⟨δ, G3, _, ab.step s123, ds.mono (ab.kp s123), t3, fun u' G4 w' H4 t4 s4 r4 => ?_⟩
    exact ⟨y, u', G4, R, s4.abs, (r2.mono ((ab.step s12).kp s3)).mono ((ab.step s123).kp s4), r4, t4, fun z G' v' H' q s5 r5 => k z G' v' H' q ((s123.trans s4).trans s5) r5⟩
  · cases r3
    refine ⟨false, rfl, ?_⟩
    rw [if_neg Bool.false_ne_true]
    exact k _ G3 _ H3 t3 (s12.trans s3) (.bl false)
  · exact t3.elim
theorem de_chain {op op' : CmpOp} {r r' : DR2} (ho : OpD X (compareOp op) r) (ho' : OpD X (compareOp op') r') (ha : DE X ρ a Ta) (hb : DE X ρ b Tb) (hc : DE X ρ c Tc)
    (hm : lastMarks [op, op'] [b, c] = false := by with_unfolding_all rfl) : DE X ρ (.Compare a [op, op'] [b, c] pos) (dChain r r' Ta Tb Tc) :=
  L2.PE.imp (pe_chain ho ho' ha hb hc hm) fun _ _ _ h => lChain h
theorem dt_chain {op op' : CmpOp} {r r' : DR2} (ho : OpD X (compareOp op) r) (ho' : OpD X (compareOp op') r') (ha : DE X ρ a Ta) (hb : DE X ρ b Tb) (hc : DE X ρ c Tc)
    (hm : lastMarks [op, op'] [b, c] = false := by with_unfolding_all rfl) : DT X ρ (.Compare a [op, op'] [b, c] pos) (dTB (dChain r r' Ta Tb Tc)) :=
  L2.PT.imp (pt_chain ho ho' ha hb hc hm) fun _ _ _ h => lTB h fun _ => lChain

/-! ### truth -/
def truth (d : D) (G : DG) : Option Bool := match d with
  | .non => some false
  | .bl b => some b
  | .int i => some (i != 0)
  | .str x => some ((x.length : Int) != 0)
  | .tup ds => some (!ds.isEmpty)
  | .scr ds => some (!ds.isEmpty)
  | .ty _ => none
  | .ref a => match G a with
    | some (.lst ds) => some (!ds.isEmpty)
    | _ => none
theorem isEmpty_den {K : PySem.W.Frag} {H : Hp} {ds : List D} {vs : List V} (h : DenL K H ds vs) : (!ds.isEmpty) = !vs.isEmpty := by cases h <;> rfl
theorem truth_ok {K : PySem.W.Frag} {w : World} {H : Hp} {G : DG} {d : D} {v : V} {k : Bool} (A : AbsG K w H G) (r : Den K H d v) (e : truth d G = some k) : TruV K v H k := by
  cases r with
  | non => cases e; rfl
  | bl b => cases e; rfl
  | int i => cases e; rfl
  | str x h => cases e; exact ⟨h, rfl⟩
  | tup hq hl => cases e; exact .inr (.inl ⟨_, hq, isEmpty_den hl⟩)
  | scr hq hl => cases e; exact .inl ⟨_, hq.sq, isEmpty_den hl⟩
  | ty n => cases e
  | ref a =>
    unfold truth at e
    dsimp only at e
    split at e
    · rename_i ds eg
      obtain ⟨vs, hv, hl⟩ := A a _ eg
      cases e
      exact .inl ⟨_, .of hv, isEmpty_den hl⟩
    · cases e
def dTru (T : DTE) : DTT := fun δ G Q => T δ G fun d G1 => ob (truth d G1) fun b => Q b G1
theorem dt_truth (ha : DE X ρ a Ta) (he : ∀ whole, isTrue a X.env whole = (do let v ← whole; standAt a.pos; holding [v] (truthy v)) := by intro _; rfl) : DT X ρ a (dTru Ta) := by
  refine L2.PT.imp (pt_truth ha he) fun σ H Q ⟨δ, G, R, ab, ds, t, k⟩ => ?_
  refine ⟨δ, G, _, ab, ds, t, fun d G' v H' q s r => ?_⟩
  obtain ⟨b, e, q⟩ := ob_iff.mp q
  exact ⟨b, truth_ok s.abs r e, k b G' H' q s⟩
def dAndT (A B : DTT) : DTT := fun δ G Q => A δ G fun b G1 => if b = true then B δ G1 Q else Q false G1
def dOrT (A B : DTT) : DTT := fun δ G Q => A δ G fun b G1 => if b = true then Q true G1 else B δ G1 Q
def dNotT (A : DTT) : DTT := fun δ G Q => A δ G fun b G1 => Q (!b) G1
variable {A B : DTT} {rest : List Expr}
theorem dw_and1 (ha : DT X ρ a A) : DW X ρ (.BoolOp .And [a] pos) A := pw_and1 ha
theorem dw_or1 (ha : DT X ρ a A) : DW X ρ (.BoolOp .Or [a] pos) A := pw_or1 ha
theorem dw_and (ha : DT X ρ a A) (hb : DW X ρ (.BoolOp .And (b :: rest) pos) B) : DW X ρ (.BoolOp .And (a :: b :: rest) pos) (dAndT A B) := by
  refine L2.PW.imp (pw_and ha hb) fun σ H Q ⟨δ, G, R, ab, ds, t, k⟩ => ?_
  refine ⟨δ, G, _, ab, ds, t, fun b G1 H1 q s => ?_⟩
  cases b with
  | true =>
    rw [if_pos rfl] at q ⊢
    exact ⟨δ, G1, R, ab.step s, ds.mono (ab.kp s), q, fun b' G' H' q' s' => k b' G' H' q' (s.trans s')⟩
  | false =>
    rw [if_neg Bool.false_ne_true] at q ⊢
    exact k false G1 H1 q s
theorem dw_or (ha : DT X ρ a A) (hb : DW X ρ (.BoolOp .Or (b :: rest) pos) B) : DW X ρ (.BoolOp .Or (a :: b :: rest) pos) (dOrT A B) := by
  refine L2.PW.imp (pw_or ha hb) fun σ H Q ⟨δ, G, R, ab, ds, t, k⟩ => ?_
  refine ⟨δ, G, _, ab, ds, t, fun b G1 H1 q s => ?_⟩
  cases b with
  | true =>
    rw [if_pos rfl] at q ⊢
    exact k true G1 H1 q s
  | false =>
    rw [if_neg Bool.false_ne_true] at q ⊢
    exact ⟨δ, G1, R, ab.step s, ds.mono (ab.kp s), q, fun b' G' H' q' s' => k b' G' H' q' (s.trans s')⟩
theorem dt_w (h : DW X ρ e A) : DT X ρ e A := L2.PW.pt h
theorem dt_not (ha : DT X ρ a A) : DT X ρ (.UnaryOp .Not a pos) (dNotT A) := by
  refine L2.PT.imp (pt_not ha) fun σ H Q ⟨δ, G, R, ab, ds, t, k⟩ => ?_
  exact ⟨δ, G, _, ab, ds, t, fun b G1 H1 q s => k (!b) G1 H1 q s⟩
/-- .. as values, by truth -/
def dAnd (Ta Tb : DTE) : DTE := fun δ G Q => Ta δ G fun d G1 => ob (truth d G1) fun k => if k = true then Tb δ G1 Q else Q d G1
def dOr (Ta Tb : DTE) : DTE := fun δ G Q => Ta δ G fun d G1 => ob (truth d G1) fun k => if k = true then Q d G1 else Tb δ G1 Q
def dNot (Ta : DTE) : DTE := fun δ G Q => Ta δ G fun d G1 => ob (truth d G1) fun k => Q (.bl (!k)) G1
theorem de_one {op} (ha : DE X ρ a Ta) : DE X ρ (.BoolOp op [a] pos) Ta := pe_one ha
theorem de_and (ha : DE X ρ a Ta) (hb : DE X ρ (.BoolOp .And (b :: rest) pos) Tb) : DE X ρ (.BoolOp .And (a :: b :: rest) pos) (dAnd Ta Tb) := by
  refine L2.PE.imp (pe_andT ha hb) fun σ H Q ⟨δ, G, R, ab, ds, t, k⟩ => ?_
  refine ⟨δ, G, _, ab, ds, t, fun d G1 v H1 q s r => ?_⟩
  obtain ⟨kk, e, q⟩ := ob_iff.mp q
  refine ⟨kk, truth_ok s.abs r e, ?_⟩
  cases kk with
  | true =>
    rw [if_pos rfl] at q ⊢
    exact ⟨δ, G1, R, ab.step s, ds.mono (ab.kp s), q, fun d' G' v' H' q' s' r' => k d' G' v' H' q' (s.trans s') r'⟩
  | false =>
    rw [if_neg Bool.false_ne_true] at q ⊢
    exact k d G1 v H1 q s r
theorem de_or (ha : DE X ρ a Ta) (hb : DE X ρ (.BoolOp .Or (b :: rest) pos) Tb) : DE X ρ (.BoolOp .Or (a :: b :: rest) pos) (dOr Ta Tb) := by
  refine L2.PE.imp (pe_orT ha hb) fun σ H Q ⟨δ, G, R, ab, ds, t, k⟩ => ?_
  refine ⟨δ, G, _, ab, ds, t, fun d G1 v H1 q s r => ?_⟩
  obtain ⟨kk, e, q⟩ := ob_iff.mp q
  refine ⟨kk, truth_ok s.abs r e, ?_⟩
  cases kk with
  | true =>
    rw [if_pos rfl] at q ⊢
    exact k d G1 v H1 q s r
  | false =>
    rw [if_neg Bool.false_ne_true] at q ⊢
    exact ⟨δ, G1, R, ab.step s, ds.mono (ab.kp s), q, fun d' G' v' H' q' s' r' => k d' G' v' H' q' (s.trans s') r'⟩
theorem de_not (ha : DE X ρ a Ta) : DE X ρ (.UnaryOp .Not a pos) (dNot Ta) := by
  refine L2.PE.imp (pe_notT ha) fun σ H Q ⟨δ, G, R, ab, ds, t, k⟩ => ?_
  refine ⟨δ, G, _, ab, ds, t, fun d G1 v H1 q s r => ?_⟩
  obtain ⟨kk, e, q⟩ := ob_iff.mp q
  exact ⟨kk, truth_ok s.abs r e, k _ G1 _ H1 q s (.bl _)⟩
def dIf (C : DTT) (Ta Tb : DTE) : DTE := fun δ G Q => C δ G fun b G1 => if b = true then Ta δ G1 Q else Tb δ G1 Q
theorem de_if (hc : DT X ρ c A) (ha : DE X ρ a Ta) (hb : DE X ρ b Tb) : DE X ρ (.IfExp c a b pos) (dIf A Ta Tb) := by
  refine L2.PE.imp (pe_ifExp hc ha hb) fun σ H Q ⟨δ, G, R, ab, ds, t, k⟩ => ?_
  refine ⟨δ, G, _, ab, ds, t, fun b G1 H1 q s => ?_⟩
  cases b with
  | true =>
    rw [if_pos rfl] at q ⊢
    exact ⟨δ, G1, R, ab.step s, ds.mono (ab.kp s), q, fun d' G' v' H' q' s' r' => k d' G' v' H' q' (s.trans s') r'⟩
  | false =>
    rw [if_neg Bool.false_ne_true] at q ⊢
    exact ⟨δ, G1, R, ab.step s, ds.mono (ab.kp s), q, fun d' G' v' H' q' s' r' => k d' G' v' H' q' (s.trans s') r'⟩

/-! ### arguments, displays -/
variable {es : List Expr} {TA' : DTA}
def dNil : DTA := fun _ G Q => Q [] G
def dCons (Ta : DTE) (Tr : DTA) : DTA := fun δ G Q => Ta δ G fun d G1 => Tr δ G1 fun ds G2 => Q (d :: ds) G2
theorem da_nil : DA X ρ [] dNil := L2.PA.imp pa_nil fun σ H Q ⟨δ, G, R, ab, ds, t, k⟩ => k [] G [] H t ab.same .nil rfl
theorem da_cons (ha : DE X ρ e Ta) (hr : DA X ρ es TA') (hs : starEach (e :: es) X.env = (false, eval e X.env) :: starEach es X.env := by rfl) : DA X ρ (e :: es) (dCons Ta TA') := by
  refine L2.PA.imp (pa_cons ha hr hs) fun σ H Q ⟨δ, G, R, ab, ds, t, k⟩ => ?_
  refine ⟨δ, G, _, ab, ds, t, fun d G1 v H1 q s r => ?_⟩
  refine ⟨δ, G1, _, ab.step s, ds.mono (ab.kp s), q, fun es' G2 vs H2 q2 s2 r2 l2 => ?_⟩
  exact k (d :: es') G2 (v :: vs) H2 q2 (s.trans s2) (.cons (r.mono ((ab.step s).kp s2)) r2) (by simp [l2])
def dTup (T : DTA) : DTE := fun δ G Q => T δ G fun ds G1 => Q (.tup ds) G1
def dLst (T : DTA) : DTE := fun δ G Q => T δ G fun ds G1 => ∀ p, G1 p = none → Q (.ref p) (gup G1 p (.lst ds))
theorem small_len {n m : Nat} (h : n = m) (l : Nat.ble m 1000 = true) : n ≤ sizeLine := by
  have z : sizeLine = 16777216 := sizeLine_eq
  have := Nat.le_of_ble_eq_true l
  omega
theorem de_tup {x1} (h : DA X ρ es TA') (l : Nat.ble es.length 1000 = true := by rfl) : DE X ρ (.Tuple es x1 pos) (dTup TA') := by
  refine L2.PE.imp (pe_tup h) fun σ H Q ⟨δ, G, R, ab, ds, t, k⟩ => ?_
  refine ⟨δ, G, _, ab, ds, t, fun ds' G1 vs H1 q s r n => ?_⟩
  refine ⟨by rw [← r.length]; exact small_len n l, fun p hp => ?_⟩
  have s2 := Step.hidden (u := .tup vs) s.abs hp
  exact k _ G1 _ _ q (s.trans s2) (.tup (.of upd_same) (r.mono (.alloc hp)))
theorem de_lst (h : DA X ρ es TA') (l : Nat.ble es.length 1000 = true := by rfl) : DE X ρ (.List es pos) (dLst TA') := by
  refine L2.PE.imp (pe_lst h) fun σ H Q ⟨δ, G, R, ab, ds, t, k⟩ => ?_
  refine ⟨δ, G, _, ab, ds, t, fun ds' G1 vs H1 q s r n => ?_⟩
  refine ⟨by rw [← r.length]; exact small_len n l, fun p hp => ?_⟩
  have s2 := Step.alloc (o := .lst ds') (u := .lst vs) s.abs hp ⟨vs, upd_same, r.mono (.alloc hp)⟩
  exact k _ _ _ _ (q p (s.abs.none hp)) (s.trans s2) (.ref p)

/-! ### calls of built-ins -/
def dCB (r : DRC) (T : DTA) : DTE := fun δ G Q => T δ G fun ds G1 => r ds G1 Q
theorem lCB {r : DRC} {n : Nat} {σ : L2.St} {H : Hp} {Q : VK} (h : lE ρ (dCB r TA') σ H Q) : tCB (lRC X.K X.w r) (lA ρ n TA') σ H Q := by
  obtain ⟨δ, G, R, ab, ds, t, k⟩ := h
  refine ⟨δ, G, _, ab, ds, t, fun ds' G1 vs H1 q s r n => ?_⟩
  exact ⟨ds', G1, R, s.abs, r, q, fun z G' v' H' q s3 r3 => k z G' v' H' q (s.trans s3) r3⟩
theorem de_callB {r : DRC} {id : String} {x : Str} {p : Pos} (hc : CallD X (.builtin id) r) (hg : Gl X x) (hm : X.mg x = none) (hv : bootBuiltins x = some (.builtin id)) (ha : DA X ρ (e :: es) TA')
    (hn : x ≠ "__name__" := by decide) (hdb : (x == ("__debug__" : Str)) = false := by decide) (hs : starEach (e :: es) X.env = (false, eval e X.env) :: starEach es X.env := by rfl)
    (hpl : (backTo pos (starEach es X.env)).any (·.1) = false := by rfl) : DE X ρ (.Call (.Name x p) (e :: es) [] pos) (dCB r TA') :=
  L2.PE.imp (pe_callB hc hg hm hv ha hn hdb hs hpl) fun _ _ _ h => lCB h
theorem de_callTy {r : DRC} {T : String} {x : Str} {p : Pos} (hc : CallD X (.type T) r) (hg : Gl X x) (hm : X.mg x = none) (hv : bootBuiltins x = some (.type T)) (ha : DA X ρ (e :: es) TA')
    (hn : x ≠ "__name__" := by decide) (hdb : (x == ("__debug__" : Str)) = false := by decide) (hs : starEach (e :: es) X.env = (false, eval e X.env) :: starEach es X.env := by rfl)
    (hpl : (backTo pos (starEach es X.env)).any (·.1) = false := by rfl) : DE X ρ (.Call (.Name x p) (e :: es) [] pos) (dCB r TA') :=
  L2.PE.imp (pe_callTy hc hg hm hv ha hn hdb hs hpl) fun _ _ _ h => lCB h
end
end DD

/-! D-layer 3: statements, targets, loops, comprehensions, calls of defs -/
namespace DD
open PySem PySem.Spec PyProof.Rows L2
section
variable {X : Cx} {ρ : Rg X.K X.w} {a b c e : Expr} {Ta Tb Tc Te : DTE} {pos : Pos} {st : Stmt} {rest : List Stmt} {T U : DTS} {A : DTT}

/-! ### statements -/
def dNext : DTS := fun E δ G => E.nx δ G
def dSeq (T U : DTS) : DTS := fun E δ G => T { E with nx := U E } δ G
theorem dss_nil : DSs X ρ [] dNext := L2.PSs.imp pss_nil fun D σ H ⟨δ, G, E, ab, ds, t, k1, _⟩ => k1 δ G σ H t ab.same ds
theorem dss_cons (h1 : DS X ρ st T) (h2 : DSs X ρ rest U) : DSs X ρ (st :: rest) (dSeq T U) := by
  refine L2.PSs.imp (pss_cons h1 h2) fun D σ H ⟨δ, G, E, ab, ds, t, k1, k2, k3, k4⟩ => ?_
  refine ⟨δ, G, _, ab, ds, t, fun δ' G' σ' H' q s d' => ?_, k2, k3, k4⟩
  exact ⟨δ', G', E, ab.step s, d', q, fun δ2 G2 σ2 H2 q2 s2 => k1 δ2 G2 σ2 H2 q2 (s.trans s2), fun d G2 v H2 q2 s2 => k2 d G2 v H2 q2 (s.trans s2),
    fun δ2 G2 σ2 H2 q2 s2 => k3 δ2 G2 σ2 H2 q2 (s.trans s2), fun δ2 G2 σ2 H2 q2 s2 => k4 δ2 G2 σ2 H2 q2 (s.trans s2)⟩
theorem dss_one (h1 : DS X ρ st T) : DSs X ρ [st] T := pss_one h1
theorem dss_never {sts : List Stmt} : DSs X ρ sts (fun _ _ _ => False) := L2.PSs.imp pss_never fun D σ H ⟨_, _, _, _, _, t, _⟩ => t.elim
theorem ds_never : DS X ρ st (fun _ _ _ => False) := L2.PS.imp ps_never fun D σ H ⟨_, _, _, _, _, t, _⟩ => t.elim
def dBreak : DTS := fun E δ G => E.bk δ G
def dCont : DTS := fun E δ G => E.ct δ G
theorem ds_pass : DS X ρ (.Pass pos) dNext := L2.PS.imp ps_pass fun D σ H ⟨δ, G, E, ab, ds, t, k1, _⟩ => k1 δ G σ H t ab.same ds
theorem ds_break : DS X ρ (.Break pos) dBreak := L2.PS.imp ps_break fun D σ H ⟨δ, G, E, ab, ds, t, _, _, k3, _⟩ => k3 δ G σ H t ab.same ds
theorem ds_cont : DS X ρ (.Continue pos) dCont := L2.PS.imp ps_continue fun D σ H ⟨δ, G, E, ab, ds, t, _, _, _, k4⟩ => k4 δ G σ H t ab.same ds
def dDrop (Te : DTE) : DTS := fun E δ G => Te δ G fun _ G1 => E.nx δ G1
theorem ds_expr (he : DE X ρ e Te) (hs : swapsWith e none pos.line X.env = pure false := by rfl) : DS X ρ (.Expr e pos) (dDrop Te) := by
  refine L2.PS.imp (ps_expr he hs) fun D σ H ⟨δ, G, E, ab, ds, t, k1, _⟩ => ?_
  exact ⟨δ, G, _, ab, ds, t, fun d G' v H' q s r => k1 δ G' σ H' q s (ds.mono (ab.kp s))⟩
def dRet (Te : DTE) : DTS := fun E δ G => Te δ G E.rt
theorem ds_ret (he : DE X ρ e Te) : DS X ρ (.Return (some e) pos) (dRet Te) := by
  refine L2.PS.imp (ps_ret he) fun D σ H ⟨δ, G, E, ab, ds, t, _, k2, _⟩ => ?_
  exact ⟨δ, G, _, ab, ds, t, fun d G' v H' q s r => k2 d G' v H' q s r⟩
def dIfS (C : DTT) (T U : DTS) : DTS := fun E δ G => C δ G fun b G1 => if b = true then T E δ G1 else U E δ G1
theorem ds_if {as bs : List Stmt} (hc : DT X ρ c A) (ha : DSs X ρ as T) (hb : DSs X ρ bs U) : DS X ρ (.If c as bs pos) (dIfS A T U) := by
  refine L2.PS.imp (ps_if hc ha hb) fun D σ H ⟨δ, G, E, ab, ds, t, k1, k2, k3, k4⟩ => ?_
  refine ⟨δ, G, _, ab, ds, t, fun b G1 H1 q s => ?_⟩
  have fin : ∀ {V : DTS}, V E δ G1 → lS ρ V D σ H1 := fun q => ⟨δ, G1, E, ab.step s, ds.mono (ab.kp s), q, fun δ2 G2 σ2 H2 q2 s2 => k1 δ2 G2 σ2 H2 q2 (s.trans s2), fun d G2 v H2 q2 s2 => k2 d G2 v H2 q2 (s.trans s2),
    fun δ2 G2 σ2 H2 q2 s2 => k3 δ2 G2 σ2 H2 q2 (s.trans s2), fun δ2 G2 σ2 H2 q2 s2 => k4 δ2 G2 σ2 H2 q2 (s.trans s2)⟩
  cases b with
  | true => exact iteT (fin q)
  | false => exact iteF (fin q)

/-! ### targets -/
variable {vs : List Nat}
def dgName (i : Nat) : DTG := fun d δ G Q => Q (δ.set i (some d)) G
theorem wipe_set {i : Nat} {x : Option V} {σ : L2.St} : ∀ {vs : List Nat}, i ∈ vs → L2.wipe (σ.set i x) vs = L2.wipe σ vs
  | [], h => by simp at h
  | v :: vs, h => by
    unfold L2.wipe
    by_cases z : i ∈ vs
    · rw [wipe_set z]
    · have e : v = i := by
        rcases List.mem_cons.mp h with q | q
        · exact q.symm
        · exact absurd q z
      subst e
      have comm : ∀ ws : List Nat, v ∉ ws → L2.wipe (σ.set v x) ws = (L2.wipe σ ws).set v x := by
        intro ws
        induction ws with
        | nil => intro _; rfl
        | cons u us ih =>
          intro hu
          simp only [List.mem_cons, not_or] at hu
          show (L2.wipe (σ.set v x) us).set u none = ((L2.wipe σ us).set u none).set v x
          rw [ih hu.2, List.set_comm _ _ hu.1]
      rw [comm vs z, List.set_set]
theorem dg_name {i : Nat} {x : Str} (h : PG X (.Name x pos) (gName i)) (hi : vs = [] ∨ i ∈ vs := by first | exact Or.inl rfl | (right; decide)) (hv : vs ≠ [] := by decide) : DGt X ρ vs (.Name x pos) (dgName i) := by
  refine L2.PG.imp h fun v σ H Q ⟨d, δ, G, R, ab, ds, r, t, k⟩ => ?_
  have z : i ∈ vs := hi.resolve_left hv
  exact k _ _ _ _ t ab.same (ds.set r i) (wipe_set z)
/-- a target where nothing is to be kept -/
theorem dg_name0 {i : Nat} {x : Str} (h : PG X (.Name x pos) (gName i)) : PG X (.Name x pos) (fun v σ H Q => ∃ d δ G R, Ab ρ H G ∧ DenS X.K H δ σ ∧ Den X.K H d v ∧ dgName i d δ G R ∧ ∀ δ' G' σ' H', R δ' G' → Step X.K X.w H G H' G' → DenS X.K H' δ' σ' → Q σ' H') := by
  refine L2.PG.imp h fun v σ H Q ⟨d, δ, G, R, ab, ds, r, t, k⟩ => ?_
  exact k _ _ _ _ t ab.same (ds.set r i)
def dgNil : DTGs := fun ds δ G Q => match ds with | [] => Q δ G | _ => False
def dgCons (g : DTG) (gs : DTGs) : DTGs := fun ds δ G Q => match ds with | d :: r => g d δ G fun δ' G' => gs r δ' G' Q | [] => False
theorem dgs_nil : DGts X ρ vs [] dgNil := by
  refine L2.PGs.imp pgs_nil fun v σ H Q ⟨d, δ, G, R, ab, ds, r, t, k⟩ => ?_
  cases r with
  | nil => exact ⟨rfl, k _ _ _ _ t ab.same ds rfl⟩
  | cons _ _ => exact t.elim
theorem dgs_cons {es : List Expr} {g : DTG} {gs : DTGs} (h1 : DGt X ρ vs e g) (h2 : DGts X ρ vs es gs)
    (hs : (assignEach (e :: es) X.env).map (·.2) = assign e X.env :: (assignEach es X.env).map (·.2) := by rfl) : DGts X ρ vs (e :: es) (dgCons g gs) := by
  refine L2.PGs.imp (pgs_cons h1 h2 hs) fun v σ H Q ⟨d, δ, G, R, ab, ds, r, t, k⟩ => ?_
  cases r with
  | nil => exact t.elim
  | cons r1 r2 =>
    refine ⟨_, _, rfl, ?_⟩
    refine ⟨_, δ, G, _, ab, ds, r1, t, fun δ' G' σ' H' q s d' w => ?_⟩
    exact ⟨_, δ', G', R, ab.step s, d', r2.mono (ab.kp s), q, fun δ2 G2 σ2 H2 q2 s2 d2 w2 => k δ2 G2 σ2 H2 q2 (s.trans s2) d2 (w2.trans w)⟩
def dgTup (n : Nat) (gs : DTGs) : DTG := fun d δ G Q => match d with | .tup ds => ds.length = n ∧ gs ds δ G Q | _ => False
theorem dg_tup {es : List Expr} {k : Nat} {gs : DTGs} {n : Nat} (hc : X.calm = true) (h : DGts X ρ vs es gs)
    (hn : (assignEach es X.env).length = n := by rfl) (hst : (assignEach es X.env).findIdx? (·.1) = none := by rfl) : DGt X ρ vs (.Tuple es k pos) (dgTup n gs) := by
  refine L2.PG.imp (pg_tup hc h hn hst) fun v σ H Q ⟨d, δ, G, R, ab, ds, r, t, k⟩ => ?_
  unfold dgTup at t
  split at t
  · cases r with
    | tup hq hl =>
      refine ⟨_, _, rfl, hq, by rw [← hl.length]; exact t.1, ?_⟩
      exact ⟨_, δ, G, R, ab, ds, hl, t.2, k⟩
  · exact t.elim

/-! ### assignments -/
def dSet (i : Nat) (Te : DTE) : DTS := fun E δ G => Te δ G fun d G1 => E.nx (δ.set i (some d)) G1
theorem lSet {i : Nat} {D : Ends} {σ : L2.St} {H : Hp} {t : TE} (h : lS ρ (dSet i Te) D σ H) (he : ∀ Q, lE ρ Te σ H Q → t σ H Q) : tAsg t (gName i) D σ H := by
  obtain ⟨δ, G, E, ab, ds, t, k1, _⟩ := h
  refine he _ ⟨δ, G, _, ab, ds, t, fun d G' v H' q s r => ?_⟩
  exact k1 _ _ _ _ q s ((ds.mono (ab.kp s)).set r i)
theorem ds_set {i : Nat} {x : Str} {pos' : Pos} (hN : X.N.Nodup) (hi : X.N[i]? = some x) (hx : Loc X.env.scope x) (he : DE X ρ e Te) (hs : swapsWith e (some (.Name x pos')) pos.line X.env = pure false := by rfl)
    (hf : X.fn x = true ∨ X.env.scope.names.lookup x = some .local := by first | exact .inl rfl | exact .inr rfl | assumption) : DS X ρ (.Assign [.Name x pos'] e pos) (dSet i Te) :=
  L2.PS.imp (ps_set hN hi hx he hs hf) fun D σ H h => lSet h fun _ => id
/-- target = e, any target -/
def dAsg (Te : DTE) (g : DTG) : DTS := fun E δ G => Te δ G fun d G1 => g d δ G1 E.nx
theorem ds_asg {tg : Expr} {g : DTG} (he : DE X ρ e Te) (hg : DGt X ρ vs tg g) (hs : swapsWithSole [tg] e pos.line X.env = pure false := by rfl) (hw : swappedStores [tg] e X.env = pure none := by rfl)
    (h1 : (assignEach [tg] X.env).map (·.2) = [assign tg X.env] := by rfl) : DS X ρ (.Assign [tg] e pos) (dAsg Te g) := by
  refine L2.PS.imp (ps_asg he hg hs hw h1) fun D σ H ⟨δ, G, E, ab, ds, t, k1, _⟩ => ?_
  refine ⟨δ, G, _, ab, ds, t, fun d G' v H' q s r => ?_⟩
  exact ⟨d, δ, G', _, ab.step s, ds.mono (ab.kp s), r, q, fun δ2 G2 σ2 H2 q2 s2 d2 _ => k1 _ _ _ _ q2 (s.trans s2) d2⟩
/-- a, b = e1, e2 with plain local names -/
def dPar (i j : Nat) (Ta : DTA) : DTS := fun E δ G => Ta δ G fun ds G1 => match ds with | [d, e] => E.nx ((δ.set i (some d)).set j (some e)) G1 | _ => False
theorem ds_par {i j : Nat} {x y : Str} {Tt : DTA} {px py pt : Pos} {kt k2 pt2} (hc : X.calm = true) (hN : X.N.Nodup) (hi : X.N[i]? = some x) (hj : X.N[j]? = some y) (hij : i ≠ j)
    (hx : X.env.scope.names.lookup x = some .local) (hy : X.env.scope.names.lookup y = some .local) (ha : DA X ρ [a, b] Tt)
    (hw : swappedStores [.Tuple [.Name x px, .Name y py] kt pt] (.Tuple [a, b] k2 pt2) X.env = pure (some [x, y]))
    (hs : swapsWithSole [.Tuple [.Name x px, .Name y py] kt pt] (.Tuple [a, b] k2 pt2) pos.line X.env = pure false := by rfl) :
    DS X ρ (.Assign [.Tuple [.Name x px, .Name y py] kt pt] (.Tuple [a, b] k2 pt2) pos) (dPar i j Tt) := by
  refine L2.PS.imp (ps_par hc hN hi hj hij hx hy ha hw hs) fun D σ H ⟨δ, G, E, ab, ds, t, k1, _⟩ => ?_
  refine ⟨δ, G, _, ab, ds, t, fun ds' G' vs H' q s r n => ?_⟩
  split at q
  · obtain ⟨v, u, rfl, r1, r2⟩ := r.inv2
    exact ⟨v, u, rfl, k1 _ _ _ _ q s (((ds.mono (ab.kp s)).set r1 i).set r2 j)⟩
  · exact q.elim
/-- o[i] = e -/
abbrev DRS := D → D → D → DG → (DG → Prop) → Prop
def lRS (K : PySem.W.Frag) (w : World) (r : DRS) : TSet := fun o i v H Q => ∃ d1 d2 d3 G R, AbsG K w H G ∧ Den K H d1 o ∧ Den K H d2 i ∧ Den K H d3 v ∧ r d1 d2 d3 G R ∧ ∀ G' H', R G' → Step K w H G H' G' → Q H'
def SetD (X : Cx) (r : DRS) : Prop := PSet X (lRS X.K X.w r)
def dPut (r : DRS) (To Ti Te : DTE) : DTS := fun E δ G => Te δ G fun d G1 => To δ G1 fun o G2 => Ti δ G2 fun i G3 => r o i d G3 fun G4 => E.nx δ G4
theorem ds_put {o i : Expr} {To Ti : DTE} {r : DRS} {ppos : Pos} (ho : DE X ρ o To) (hi : DE X ρ i Ti) (he : DE X ρ e Te) (hr : SetD X r)
    (ha : ∀ v, assign (.Subscript o i ppos) X.env v = (do
      let ov ← holding [v] (eval o X.env)
      let iv ← holding [v, ov] (eval i X.env)
      standAt ppos
      holding [v, ov, iv] (setItem ov iv v)
      release [v, ov, iv] []) := by intro _; rfl)
    (hs : swapsWithSole [.Subscript o i ppos] e pos.line X.env = pure false := by rfl) (hw : swappedStores [.Subscript o i ppos] e X.env = pure none := by rfl)
    (h1 : (assignEach [.Subscript o i ppos] X.env).map (·.2) = [assign (.Subscript o i ppos) X.env] := by rfl) : DS X ρ (.Assign [.Subscript o i ppos] e pos) (dPut r To Ti Te) := by
  refine L2.PS.imp (ps_asg he (pg_sub ho hi hr ha) hs hw h1) fun D σ H ⟨δ, G, E, ab, ds, t, k1, _⟩ => ?_
  refine ⟨δ, G, _, ab, ds, t, fun d G1 v H1 q1 s1 r1 => ?_⟩
  refine ⟨δ, G1, _, ab.step s1, ds.mono (ab.kp s1), q1, fun o G2 vo H2 q2 s2 r2 => ?_⟩
  have s12 := s1.trans s2
  refine ⟨δ, G2, _, ab.step s12, ds.mono (ab.kp s12), q2, fun i G3 vi H3 q3 s3 r3 => ?_⟩
  have s123 := s12.trans s3
  refine ⟨o, i, d, G3, _, s3.abs, r2.mono ((ab.step s12).kp s3), r3, (r1.mono ((ab.step s1).kp s2)).mono ((ab.step s12).kp s3), q3, fun G4 H4 q4 s4 => ?_⟩
  exact k1 _ _ _ _ q4 (s123.trans s4) (ds.mono (ab.kp (s123.trans s4)))

/-! ### for -/
/-- the turns over ds, while chk holds -/
def forL (chk : DG → Prop) (g : DTG) (B : DTS) (E : DEnds) : List D → DSt → DG → Prop
  | [], δ, G => chk G ∧ E.nx δ G
  | d :: r, δ, G => chk G ∧ g d δ G fun δ' G' => B { nx := forL chk g B E r, ct := forL chk g B E r, bk := E.nx, rt := E.rt } δ' G'
def dFor (I : DTI) (g : DTG) (B : DTS) : DTS := fun E δ G => I δ G fun ds chk G1 => forL chk g B E ds δ G1
theorem forL_chk {chk : DG → Prop} {g : DTG} {B : DTS} {E : DEnds} {δ : DSt} {G : DG} : ∀ {ds : List D}, forL chk g B E ds δ G → chk G
  | [], h => h.1
  | _ :: _, h => h.1
theorem ds_for {tg iter : Expr} {body : List Stmt} {I : DTI} {g : DTG} {B : DTS} (hp : PassesOwn (model X.prog X.w) X.A X.env X.xe) (hc : X.calm = true) (hi : DI X ρ tg iter I) (hg : DGt X ρ vs tg g) (hb : DSs X ρ body B)
    (hs : ∀ x, foldedSetIterable iter X.env x = pure x := by intro _; rfl) : DS X ρ (.For tg iter body [] pos) (dFor I g B) := by
  refine L2.PS.imp (ps_for hp hc hi hg hb hs) fun D σ H ⟨δ, G, E, ab, ds, t, k1, k2, k3, k4⟩ => ?_
  refine ⟨δ, G, _, ab, ds, t, fun its chk G1 J H1 q s ⟨Gd, Y, W, sz, hG, hY⟩ => ?_⟩
  have ab1 := ab.step s
  refine for_it W (fun i σ' H' => ∃ δ' G', Step X.K X.w H1 G1 H' G' ∧ DenS X.K H' δ' σ' ∧ forL chk g B E (its.drop i) δ' G') ⟨δ, G1, ab1.same, ds.mono (ab.kp s), q⟩ ?_ ?_ ?_
  · rintro i σ' H' _ ⟨δ', G', s', d', q'⟩
    exact hG H' G' (ab1.kp s') s'.abs (forL_chk q')
  · rintro i x σ' H' H2 hi ⟨δ', G', s', d', q'⟩ y
    obtain ⟨d, ed, s2, r2⟩ := hY i H' x H2 G' (ab1.kp s') s'.abs (forL_chk q') (hG H' G' (ab1.kp s') s'.abs (forL_chk q')) hi y
    have e : its.drop i = d :: its.drop (i + 1) := by
      rw [List.drop_eq_getElem_cons hi]
      rw [List.getElem?_eq_getElem hi] at ed
      cases ed
      rfl
    rw [e] at q'
    have ab' := ab1.step s'
    refine ⟨d, δ', G', _, ab'.step s2, d'.mono (ab'.kp s2), r2, q'.2, fun δ3 G3 σ3 H3 q3 s3 d3 _ => ?_⟩
    have s123 := (s'.trans s2).trans s3
    refine ⟨δ3, G3, _, ab1.step s123, d3, q3, fun δ4 G4 σ4 H4 q4 s4 d4 => ⟨δ4, G4, s123.trans s4, d4, q4⟩, fun d4 G4 v4 H4 q4 s4 r4 => k2 d4 G4 v4 H4 q4 ((s.trans s123).trans s4) r4,
      fun δ4 G4 σ4 H4 q4 s4 d4 => k1 δ4 G4 σ4 H4 q4 ((s.trans s123).trans s4) d4, fun δ4 G4 σ4 H4 q4 s4 d4 => ⟨δ4, G4, s123.trans s4, d4, q4⟩⟩
  · rintro σ' H' ⟨δ', G', s', d', q'⟩
    rw [List.drop_length] at q'
    exact k1 δ' G' σ' H' q'.2 (s.trans s') d'

/-! ### while: so many turns at most -/
def whileL (C : DTT) (B : DTS) (E : DEnds) : Nat → DSt → DG → Prop
  | 0, _, _ => False
  | n + 1, δ, G => C δ G fun b G1 => if b = true then B { nx := whileL C B E n, ct := whileL C B E n, bk := E.nx, rt := E.rt } δ G1 else E.nx δ G1
def dWhile (C : DTT) (B : DTS) : DTS := fun E δ G => ∃ n, whileL C B E n δ G
theorem ds_while {body : List Stmt} {B : DTS} (hp : PassesOwn (model X.prog X.w) X.A X.env X.xe) (hc : DT X ρ c A) (hb : DSs X ρ body B) : DS X ρ (.While c body [] pos) (dWhile A B) := by
  refine L2.PS.imp (ps_while hp hc hb) fun D σ H ⟨δ, G, E, ab, ds, ⟨n, t⟩, k1, k2, k3, k4⟩ => ?_
  refine ⟨fun m σ' H' => ∃ δ' G', Step X.K X.w H G H' G' ∧ DenS X.K H' δ' σ' ∧ whileL A B E m δ' G', ⟨n, δ, G, ab.same, ds, t⟩, ?_⟩
  rintro m σ' H' ⟨δ', G', s', d', q'⟩
  cases m with
  | zero => exact q'.elim
  | succ m =>
    refine ⟨δ', G', _, ab.step s', d', q', fun b G1 H1 q s => ?_⟩
    have s1 := s'.trans s
    cases b with
    | true =>
      refine iteT ?_
      rw [if_pos rfl] at q
      refine ⟨fun σ2 H2 => ∃ δ2 G2, Step X.K X.w H G H2 G2 ∧ DenS X.K H2 δ2 σ2 ∧ whileL A B E m δ2 G2, fun σ2 H2 h2 => ⟨m, Nat.lt_succ_self m, h2⟩, ?_⟩
      exact ⟨δ', G1, _, ab.step s1, d'.mono ((ab.step s').kp s), q, fun δ4 G4 σ4 H4 q4 s4 d4 => ⟨δ4, G4, s1.trans s4, d4, q4⟩, fun d4 G4 v4 H4 q4 s4 r4 => k2 d4 G4 v4 H4 q4 (s1.trans s4) r4,
        fun δ4 G4 σ4 H4 q4 s4 d4 => k1 δ4 G4 σ4 H4 q4 (s1.trans s4) d4, fun δ4 G4 σ4 H4 q4 s4 d4 => ⟨δ4, G4, s1.trans s4, d4, q4⟩⟩
    | false =>
      refine iteF ?_
      rw [if_neg Bool.false_ne_true] at q
      exact k1 δ' G1 σ' H1 q s1 (d'.mono ((ab.step s').kp s))

/-! ### list comprehensions -/
def dYes : DTT := fun _ G Q => Q true G
theorem dts_nil : DTs X ρ [] dYes := L2.PTs.imp pts_nil fun σ H Q ⟨δ, G, R, ab, ds, t, k⟩ => k true G H t ab.same
theorem dts_one (h : DT X ρ c A) : DTs X ρ [c] A := pts_one h
def lcL (chk : DG → Prop) (g : DTG) (C : DTT) (Te : DTE) (δ : DSt) (Q : DK) : List D → List D → DG → Prop
  | [], acc, G => chk G ∧ ∀ p, G p = none → Q (.ref p) (gup G p (.lst acc))
  | d :: r, acc, G => chk G ∧ g d δ G fun δ2 G2 => C δ2 G2 fun b G3 => if b = true then Te δ2 G3 fun y G4 => lcL chk g C Te δ Q r (acc ++ [y]) G4 else lcL chk g C Te δ Q r acc G3
def dLc (I : DTI) (g : DTG) (C : DTT) (Te : DTE) (vs : List Nat) : DTE := fun δ G Q => I δ G fun ds chk G1 => lcL chk g C Te (dwipe δ vs) Q ds [] G1
theorem lcL_chk {chk : DG → Prop} {g : DTG} {C : DTT} {δ : DSt} {Q : DK} {G : DG} {acc : List D} : ∀ {ds : List D}, lcL chk g C Te δ Q ds acc G → chk G
  | [], h => h.1
  | _ :: _, h => h.1
theorem lLc {I : DTI} {g : DTG} {C : DTT} {σ : L2.St} {H : Hp} {Q : VK} (h : lE ρ (dLc I g C Te vs) σ H Q) : tLc (lI ρ I) (lG ρ vs g) (lT ρ C) (lE ρ Te) vs σ H Q := by
  obtain ⟨δ, G, R, ab, ds, t, k⟩ := h
  refine ⟨δ, G, _, ab, ds, t, fun its chk G1 J H1 q s ⟨Gd, Y, W, sz, hG, hY⟩ => ?_⟩
  intro D nD
  have ab1 := ab.step s
  have nG : G1 D = none := s.abs.none nD
  have kd : ∀ {H' : Hp} {vacc ys : List V}, H' D = some (.lst vacc) → Kp X.K H' (upd H' D (.lst ys)) := fun {H' vacc ys} e => .same fun a xs q => by
    have ne : a ≠ D := by
      rintro rfl
      rcases q with q | ⟨_, _, q⟩
      · rw [e] at q; cases q
      · rw [e] at q; cases q
    rw [upd_ne ne]
  -- what holds at turn i: the new list at D is not told by G'
  refine lc_it W (fun i H' => ∃ G' acc vacc, Step X.K X.w H1 G1 H' G' ∧ G' D = none ∧ H' D = some (.lst vacc) ∧ DenL X.K H' acc vacc ∧ acc.length ≤ i ∧ lcL chk g C Te (dwipe δ vs) R (its.drop i) acc G') ?_ ?_ ?_ ?_
  · exact ⟨G1, [], [], Step.hidden s.abs nD, nG, upd_same, .nil, Nat.le_refl _, q⟩
  · rintro i H' _ ⟨G', acc, vacc, s', n', e', r', l', q'⟩
    exact hG H' G' (ab1.kp s') s'.abs (lcL_chk q')
  · rintro i x H' H2 hi ⟨G', acc, vacc, s', n', e', r', l', q'⟩ y
    obtain ⟨d, ed, s2, r2⟩ := hY i H' x H2 G' (ab1.kp s') s'.abs (lcL_chk q') (hG H' G' (ab1.kp s') s'.abs (lcL_chk q')) hi y
    have e : its.drop i = d :: its.drop (i + 1) := by
      rw [List.drop_eq_getElem_cons hi]
      rw [List.getElem?_eq_getElem hi] at ed
      cases ed
      rfl
    rw [e] at q'
    have ab' := ab1.step s'
    have s12 := s'.trans s2
    have dw : DenS X.K H2 (dwipe δ vs) (L2.wipe σ vs) := (ds.mono (ab.kp (s.trans s12))).wipe vs
    refine ⟨d, dwipe δ vs, G', _, ab'.step s2, dw, r2, q'.2, fun δ3 G3 σ3 H3 q3 s3 d3 w3 => ?_⟩
    have s123 := s12.trans s3
    have ww : ∀ ws : List Nat, L2.wipe (L2.wipe σ ws) ws = L2.wipe σ ws := by
      intro ws
      have gen : ∀ (us : List Nat) (τ : L2.St), (∀ u ∈ us, ∀ i, i = u → τ[i]? = some none ∨ τ[i]? = none) → L2.wipe τ us = τ := by
        intro us
        induction us with
        | nil => intro _ _; rfl
        | cons u us ih =>
          intro τ hτ
          show (L2.wipe τ us).set u none = τ
          rw [ih τ fun u' hu' => hτ u' (List.mem_cons_of_mem _ hu')]
          apply List.ext_getElem?
          intro j
          by_cases z : u = j
          · subst z
            by_cases l : u < τ.length
            · rw [List.getElem?_set_self l]
              rcases hτ u (List.mem_cons_self) u rfl with z | z
              · exact z.symm
              · rw [List.getElem?_eq_none_iff] at z; omega
            · rw [List.getElem?_eq_none (by simpa using l), List.getElem?_eq_none (by omega)]
          · rw [List.getElem?_set_ne z]
      refine gen ws _ fun u hu i e => ?_
      subst e
      cases q : (L2.wipe σ ws)[i]? with
      | none => exact .inr rfl
      | some o =>
        cases o with
        | none => exact .inl rfl
        | some x => exact absurd hu (wipe_some q).2
    refine ⟨w3.trans (ww vs), ?_⟩
    refine ⟨δ3, G3, _, ab1.step s123, d3, q3, fun b G4 H4 q4 s4 => ?_⟩
    have s1234 := s123.trans s4
    -- the new list stands
    have nD2 : H2 D = some (.lst vacc) := s2.hid D _ e' n'
    have n2 : G' D = none := n'
    have e3 : H3 D = some (.lst vacc) := s3.hid D _ nD2 n'
    have n3 : G3 D = none := s3.new D (by rw [nD2]; simp) n'
    have e4 : H4 D = some (.lst vacc) := s4.hid D _ e3 n3
    have n4 : G4 D = none := s4.new D (by rw [e3]; simp) n3
    have r4 : DenL X.K H4 acc vacc := r'.mono (ab'.kp ((s2.trans s3).trans s4))
    cases b with
    | true =>
      refine iteT ?_
      rw [if_pos rfl] at q4
      refine ⟨δ3, G4, _, ab1.step s1234, d3.mono ((ab1.step s123).kp s4), q4, fun y' G5 vy H5 q5 s5 r5 => ?_⟩
      have s5' := s1234.trans s5
      have e5 : H5 D = some (.lst vacc) := s5.hid D _ e4 n4
      have n5 : G5 D = none := s5.new D (by rw [e4]; simp) n4
      have r5' : DenL X.K H5 acc vacc := r4.mono ((ab1.step s1234).kp s5)
      have kk := kd (ys := vacc ++ [vy]) e5
      refine ⟨vacc, e5, ?_, G5, acc ++ [y'], vacc ++ [vy], ⟨fun a o h n => ?_, fun a o h => ?_, fun a h n => s5'.new a h n⟩, n5, upd_same, ((r5'.append (.one r5)).mono kk), ?_, q5⟩
      · rw [← r5'.length]; omega
      · rw [upd_ne (ne_of_none h nD)]; exact s5'.hid a o h n
      · refine (s5'.abs a o h).mono kk ?_
        rw [upd_ne (fun z => by rw [z, n5] at h; cases h)]
      · simp; omega
    | false =>
      refine iteF ?_
      rw [if_neg Bool.false_ne_true] at q4
      exact ⟨G4, acc, vacc, s1234, n4, e4, r4, by omega, q4⟩
  · rintro H' ⟨G', acc, vacc, s', n', e', r', l', q'⟩
    rw [List.drop_length] at q'
    refine k _ _ _ H' (q'.2 D n') (s.trans ⟨fun a o h n => s'.hid a o h n, fun a o h => ?_, fun a h n => ?_⟩) (.ref D)
    · by_cases z : a = D
      · subst z; rw [gup_same] at h; cases h; exact ⟨vacc, e', r'⟩
      · rw [gup_ne z] at h; exact s'.abs a o h
    · rw [gup_ne (fun z => h (by rw [z]; exact nD))]; exact s'.new a h n
end
end DD

/-! D-layer 4: comprehension rules, walks, subscripts, slices, fields, methods, calls of defs, the def's own rule -/
namespace DD
open PySem PySem.Spec PyProof.Rows L2
section
variable {X : Cx} {ρ : Rg X.K X.w} {a b c e o : Expr} {Ta Tb Tc Te To : DTE} {pos : Pos} {vs : List Nat}

/-! ### comprehensions -/
theorem de_lc {elt tg iter : Expr} {ifs : List Expr} {scope : Scope} {own : List (Str × Nat)} {I : DTI} {g : DTG} {C : DTT} (hc : X.calm = true) (hN : X.N.Nodup) (hi : DI X ρ tg iter I) (ok : BlkOk X.N X.env.scope scope own)
    (hg : ∀ (s : Shared) (H : Hp) (C : Addr) (cl : List (Str × Addr)) (fp : List Addr), DGt (X.blk s H scope (compEnvC scope cl C X.env) fp) ρ (own.map (·.2)) tg g)
    (ht : ∀ (s : Shared) (H : Hp) (A : Addr) (cl : List (Str × Addr)) (fp : List Addr), DTs (X.blk s H scope (compEnvC scope cl A X.env) fp) ρ ifs C)
    (he : ∀ (s : Shared) (H : Hp) (C : Addr) (cl : List (Str × Addr)) (fp : List Addr), DE (X.blk s H scope (compEnvC scope cl C X.env) fp) ρ elt Te) (hs : ∀ x, foldedSetIterable iter X.env x = pure x := by intro _; rfl) :
    DE X ρ (.ListComp elt [⟨tg, iter, ifs, 0⟩] scope pos) (dLc I g C Te (own.map (·.2))) :=
  L2.PE.imp (pe_lc (g := lG ρ (own.map fun (x : Str × Nat) => x.2) g) (tt := lT ρ C) (te := lE ρ Te) hc hN hi ok (fun s H C cl fp => hg s H C cl fp) (fun s H C cl fp => ht s H C cl fp) (fun s H C cl fp => he s H C cl fp) hs) fun _ _ _ h => lLc h
theorem ds_setLc {i : Nat} {y : Str} {py spos : Pos} {elt tg iter : Expr} {ifs : List Expr} {scope : Scope} {own : List (Str × Nat)} {I : DTI} {g : DTG} {C : DTT} (hc : X.calm = true) (hN : X.N.Nodup) (hy : X.N[i]? = some y) (hyl : X.env.scope.names.lookup y = some .local)
    (hsw : swapsWith (.ListComp elt [⟨tg, iter, ifs, 0⟩] scope pos) (some (.Name y py)) spos.line X.env = pure true) (hi : DI X ρ tg iter I) (ok : BlkOk X.N X.env.scope scope own)
    (hg : ∀ (s : Shared) (H : Hp) (C : Addr) (cl : List (Str × Addr)) (fp : List Addr), DGt (X.blk s H scope (compEnvC scope cl C X.env) fp) ρ (own.map (·.2)) tg g)
    (ht : ∀ (s : Shared) (H : Hp) (A : Addr) (cl : List (Str × Addr)) (fp : List Addr), DTs (X.blk s H scope (compEnvC scope cl A X.env) fp) ρ ifs C)
    (he : ∀ (s : Shared) (H : Hp) (C : Addr) (cl : List (Str × Addr)) (fp : List Addr), DE (X.blk s H scope (compEnvC scope cl C X.env) fp) ρ elt Te) (hs : ∀ x, foldedSetIterable iter X.env x = pure x := by intro _; rfl) :
    DS X ρ (.Assign [.Name y py] (.ListComp elt [⟨tg, iter, ifs, 0⟩] scope pos) spos) (dSet i (dLc I g C Te (own.map (·.2)))) :=
  L2.PS.imp (ps_setLc (g := lG ρ (own.map fun (x : Str × Nat) => x.2) g) (tt := lT ρ C) (te := lE ρ Te) hc hN hy hyl hsw hi ok (fun s H C cl fp => hg s H C cl fp) (fun s H C cl fp => ht s H C cl fp) (fun s H C cl fp => he s H C cl fp) hs) fun D σ H h => lSet h fun _ => lLc

/-! ### what is walked -/
/-- a tuple, a read-only list: its items; a list: its items while it stands -/
def dSeqI (Te : DTE) : DTI := fun δ G R => Te δ G fun d G1 => match d with
  | .tup ds => R ds (fun _ => True) G1
  | .ref a => (match G1 a with
    | some (.lst ds) => R ds (fun G' => G' a = some (.lst ds)) G1
    | _ => False)
  | _ => False
def dTupI (Te : DTE) : DTI := fun δ G R => Te δ G fun d G1 => match d with
  | .tup ds => R ds (fun _ => True) G1
  | _ => False
def dLstI (Te : DTE) : DTI := fun δ G R => Te δ G fun d G1 => match d with
  | .ref a => (match G1 a with
    | some (.lst ds) => R ds (fun G' => G' a = some (.lst ds)) G1
    | _ => False)
  | _ => False
theorem DenL.le_line {pins : List (Addr × Obj)} {σ : L2.St} {H : Hp} {s : Shared} {ds : List D} {us : List V} (r : DenL X.K H ds us) (h : us.length ≤ sizeLine) : ds.length ≤ sizeLine := by rw [r.length]; exact h
/-- a reading may know that the state is held -/
theorem _root_.L2.PI.held {tg e : Expr} {t t' : TI} (h : PI X tg e t) (i : ∀ (pins : List (Addr × Obj)) (s : Shared) σ H R, Inv X pins σ H s → t' σ H R → t σ H R) : PI X tg e t' := ⟨fun pins s σ H R I q => h.run pins s σ H R I (i pins s σ H R I q)⟩
/-- .. behind an expression -/
theorem _root_.L2.PE.held {e : Expr} {t : TE} (h : PE X e t) : PE X e (fun σ H Q => t σ H fun v H' => (∀ (s : Shared) (pins : List (Addr × Obj)), Inv X pins σ H' s → Q v H')) :=
  ⟨fun pins s σ H Q I q => thn (h.run pins s σ H _ I q) fun u s1 ⟨v, H1, I1, r, q1⟩ => ⟨v, H1, I1, r, q1 s1 pins I1⟩⟩
theorem di_tup {tg : Expr} (he : DE X ρ e Te) : DI X ρ tg e (dTupI Te) := by
  refine L2.PI.imp (pi_tup (L2.PE.held he)) fun σ H R' ⟨δ, G, R, ab, ds, t, k⟩ => ?_
  refine ⟨δ, G, _, ab, ds, t, fun d G1 v H1 q s r s' pins I => ?_⟩
  unfold dTupI at *
  split at q
  · cases r with
    | tup hq hl =>
      rename_i ds' a us
      refine ⟨a, rfl, ⟨us, hq⟩, k _ _ G1 _ H1 q s ⟨fun H => SqT X.K H a us, YAt us, by rw [hl.length]; exact walk_tup, ?_, fun H G kp _ _ => kp.tup _ _ hq, fun i H x H' G kp A _ g hi y => ?_⟩⟩
      · obtain ⟨_, _, _, z⟩ := I.tuple hq
        rw [hl.length]; exact z
      · obtain ⟨rfl, ex⟩ := y
        obtain ⟨d, ed, rd⟩ := hl.getV ex
        exact ⟨d, ed, .refl A, rd.mono kp⟩
  · exact q.elim
theorem di_lst {tg : Expr} (he : DE X ρ e Te) : DI X ρ tg e (dLstI Te) := by
  refine L2.PI.imp (pi_list (L2.PE.held he)) fun σ H R' ⟨δ, G, R, ab, ds, t, k⟩ => ?_
  refine ⟨δ, G, _, ab, ds, t, fun d G1 v H1 q s r s' pins I => ?_⟩
  split at q
  · rename_i a
    cases r
    split at q
    · rename_i ds' e1
      obtain ⟨us, hu, hl⟩ := s.abs a _ e1
      refine ⟨a, rfl, ⟨us, .of hu⟩, k _ _ G1 _ H1 q s ⟨fun H => ∃ ws, SqL X.K H a ws ∧ ws.length = ds'.length ∧ DenL X.K H ds' ws, fun i H x H' => H' = H ∧ ∃ ws, SqL X.K H a ws ∧ DenL X.K H ds' ws ∧ ws[i]? = some x, ⟨fun i H hi g => ?_, fun H g => ?_, fun i H x H' hi g y => ?_⟩, ?_, fun H G kp A c => ?_, fun i H x H' G kp A c g hi y => ?_⟩⟩
      · obtain ⟨ws, h1, h2, h3⟩ := g
        exact ⟨ws, ws[i], h1, by simp [h2, hi]⟩
      · obtain ⟨ws, h1, h2, h3⟩ := g
        exact ⟨ws, h1, by omega⟩
      · obtain ⟨ws, h1, h2, h3⟩ := g
        exact ⟨y.1, ws, h1, h3, y.2 ws h1⟩
      · obtain ⟨_, _, _, z⟩ := I.list (.of hu)
        rw [hl.length]; exact z
      · obtain ⟨ws, hw, hl'⟩ := A a _ c
        exact ⟨ws, .of hw, hl'.length.symm, hl'⟩
      · obtain ⟨rfl, ws, h1, h2, h3⟩ := y
        obtain ⟨d, ed, rd⟩ := h2.getV h3
        exact ⟨d, ed, .refl A, rd⟩
    · exact q.elim
  · exact q.elim
/-- a text, sign by sign -/
def signs (x : Str) : List D := x.cps.toList.map fun c => .str ⟨#[c]⟩
def dStrI (Te : DTE) : DTI := fun δ G R => Te δ G fun d G1 => match d with
  | .str x => R (signs x) (fun _ => True) G1
  | _ => False
theorem di_str {tg : Expr} (he : DE X ρ e Te) : DI X ρ tg e (dStrI Te) := by
  refine L2.PI.imp (pi_str he) fun σ H R' ⟨δ, G, R, ab, ds, t, k⟩ => ?_
  refine ⟨δ, G, _, ab, ds, t, fun d G1 v H1 q s r => ?_⟩
  split at q
  · rename_i x
    cases r with
    | str _ hx =>
    have hl : (signs x).length = x.cps.size := by simp [signs]
    refine ⟨x, rfl, k _ _ G1 _ H1 q s ⟨fun _ => True, fun i H v H' => H' = H ∧ ∃ c, x.cps[i]? = some c ∧ v = .str ⟨#[c]⟩, by rw [hl]; exact walk_str, by rw [hl]; exact hx, fun _ _ _ _ _ => trivial, fun i H y H' G kp A _ _ hi z => ?_⟩⟩
    obtain ⟨rfl, c, ec, rfl⟩ := z
    refine ⟨.str ⟨#[c]⟩, ?_, .refl A, .str _ (by show 1 ≤ sizeLine; decide)⟩
    simp [signs, ec]
  · exact q.elim
/-- range(n), range(m, n) -/
def irow (lo : Int) (n : Nat) : List D := (List.range n).map fun (i : Nat) => .int (lo + i)
theorem irow_len (lo : Int) (n : Nat) : (irow lo n).length = n := by simp [irow]
theorem walk_irow {K : PySem.W.Frag} {w : World} {H0 : Hp} (lo : Int) (n : Nat) (h : n ≤ sizeLine) : ItJ K w H0 (irow lo n) (fun _ => True) (Itr lo n) := by
  refine ⟨fun _ => True, fun i H x H' => H' = H ∧ x = .int (lo + i), by rw [irow_len]; exact ⟨fun _ _ hi _ => hi, fun _ _ => Nat.le_refl _, fun _ _ _ _ _ _ y => y⟩, by rw [irow_len]; exact h, fun _ _ _ _ _ => trivial, fun i H y H' G kp A _ _ hi z => ?_⟩
  obtain ⟨rfl, rfl⟩ := z
  rw [irow_len] at hi
  exact ⟨.int (lo + i), by simp [irow, hi], .refl A, .int _⟩
def dRng1 (TA : DTA) : DTI := fun δ G R => TA δ G fun ds G1 => match ds with
  | [.int j] => (-1000000 ≤ j ∧ j ≤ 1000000) ∧ R (irow 0 j.toNat) (fun _ => True) G1
  | _ => False
def dRng2 (TA : DTA) : DTI := fun δ G R => TA δ G fun ds G1 => match ds with
  | [.int i, .int j] => (-1000000 ≤ i ∧ i ≤ 1000000 ∧ -1000000 ≤ j ∧ j ≤ 1000000) ∧ R (irow i (j - i).toNat) (fun _ => True) G1
  | _ => False
theorem di_range1 {tg : Expr} {TA : DTA} {p : Pos} (hg : Gl X "range") (hm : X.mg "range" = none) (ha : DA X ρ [a] TA) (hs : starEach [a] X.env = [(false, eval a X.env)] := by rfl) : DI X ρ tg (.Call (.Name "range" p) [a] [] pos) (dRng1 TA) := by
  refine L2.PI.imp (pi_range1 hg hm ha hs) fun σ H R' ⟨δ, G, R, ab, ds, t, k⟩ => ?_
  refine ⟨δ, G, _, ab, ds, t, fun ds' G1 us H1 q s r _ => ?_⟩
  have hz : sizeLine = 16777216 := sizeLine_eq
  unfold dRng1 at *
  split at q
  · rename_i j _
    obtain ⟨v, rfl, rv⟩ := r.inv1
    cases rv
    obtain ⟨⟨h1, h2⟩, q⟩ := q
    exact ⟨j, rfl, by omega, by omega, k _ _ G1 _ H1 q s (walk_irow 0 j.toNat (by omega))⟩
  · exact q.elim
theorem di_range2 {tg : Expr} {TA : DTA} {p : Pos} (hg : Gl X "range") (hm : X.mg "range" = none) (ha : DA X ρ [a, b] TA) (hs : starEach [a, b] X.env = [(false, eval a X.env), (false, eval b X.env)] := by rfl) (hs2 : starEach [b] X.env = [(false, eval b X.env)] := by rfl) :
    DI X ρ tg (.Call (.Name "range" p) [a, b] [] pos) (dRng2 TA) := by
  refine L2.PI.imp (pi_range2 hg hm ha hs hs2) fun σ H R' ⟨δ, G, R, ab, ds, t, k⟩ => ?_
  refine ⟨δ, G, _, ab, ds, t, fun ds' G1 us H1 q s r _ => ?_⟩
  have hz : sizeLine = 16777216 := sizeLine_eq
  split at q
  · rename_i i j _
    obtain ⟨v, u, rfl, rv, ru⟩ := r.inv2
    cases rv
    cases ru
    obtain ⟨⟨h1, h2, h3, h4⟩, q⟩ := q
    exact ⟨i, j, rfl, ⟨by omega, by omega, by omega, by omega⟩, k _ _ G1 _ H1 q s (walk_irow i (j - i).toNat (by omega))⟩
  · exact q.elim

/-! ### subscripts, slices -/
def IxD (X : Cx) (r : DR2) : Prop := IxR X (lR2 X.K X.w r)
theorem de_ix {r : DR2} (hr : IxD X r) (ha : DE X ρ a Ta) (hb : DE X ρ b Tb) (hs : PlainIx b := by exact fun _ _ => rfl) : DE X ρ (.Subscript a b pos) (dOp r Ta Tb) :=
  L2.PE.imp (pe_ix hr ha hb hs) fun _ _ _ h => lOp h
abbrev DTO := DSt → DG → (Option Int → DG → Prop) → Prop
def lO (T : DTO) : TO := fun σ H Q => ∃ δ G R, Ab ρ H G ∧ DenS X.K H δ σ ∧ T δ G R ∧ ∀ o G' H', R o G' → Step X.K X.w H G H' G' → Q o H'
end
end DD

/-! D-layer 5: slices, fields, methods, calls of defs, the def's own rule -/
namespace DD
open PySem PySem.Spec PyProof.Rows L2
section
variable {X : Cx} {ρ : Rg X.K X.w} {a b c e o : Expr} {Ta Tb Tc Te To : DTE} {pos : Pos} {vs : List Nat} {es : List Expr} {TA : DTA}

/-! ### slices -/
def DOp (X : Cx) (ρ : Rg X.K X.w) (e : Option Expr) (T : DTO) : Prop := PO X e (lO (ρ := ρ) T)
theorem _root_.L2.PO.imp {X : Cx} {e : Option Expr} {t t' : TO} (h : PO X e t) (i : ∀ σ H Q, t' σ H Q → t σ H Q) : PO X e t' := ⟨fun pins s σ H Q I q => h.run pins s σ H Q I (i σ H Q q)⟩
def dNoPart : DTO := fun _ G Q => Q none G
def dPart (Te : DTE) : DTO := fun δ G Q => Te δ G fun d G1 => match d with | .int i => Q (some i) G1 | _ => False
theorem do_none : DOp X ρ none dNoPart := L2.PO.imp po_none fun σ H Q ⟨δ, G, R, ab, ds, t, k⟩ => k none G H t ab.same
theorem do_some (he : DE X ρ e Te) : DOp X ρ (some e) (dPart Te) := by
  refine L2.PO.imp (po_some he) fun σ H Q ⟨δ, G, R, ab, ds, t, k⟩ => ?_
  refine ⟨δ, G, _, ab, ds, t, fun d G' v H' q s r => ?_⟩
  split at q
  · cases r
    exact ⟨_, rfl, k _ G' H' q s⟩
  · exact q.elim
abbrev DRSl := D → Option Int → Option Int → DG → DK → Prop
def lRSl (K : PySem.W.Frag) (w : World) (r : DRSl) : V → Option Int → Option Int → Hp → VK → Prop := fun x lo hi H Q => ∃ d G R, AbsG K w H G ∧ Den K H d x ∧ r d lo hi G R ∧ ∀ z G' v H', R z G' → Step K w H G H' G' → Den K H' z v → Q v H'
def SlD (X : Cx) (r : DRSl) : Prop := SlR X (lRSl X.K X.w r)
def dSl (r : DRSl) (Te : DTE) (Tl Th : DTO) : DTE := fun δ G Q => Te δ G fun d G1 => Tl δ G1 fun l G2 => Th δ G2 fun u G3 => r d l u G3 Q
theorem de_slice {r : DRSl} {lo hi : Option Expr} {Tl Th : DTO} {p2 : Pos} (hr : SlD X r) (he : DE X ρ e Te) (hl : DOp X ρ lo Tl) (hu : DOp X ρ hi Th) : DE X ρ (.Subscript e (.Slice lo hi none p2) pos) (dSl r Te Tl Th) := by
  refine L2.PE.imp (pe_slice hr he hl hu) fun σ H Q ⟨δ, G, R, ab, ds, t, k⟩ => ?_
  refine ⟨δ, G, _, ab, ds, t, fun d G1 v H1 q1 s1 r1 => ?_⟩
  refine ⟨δ, G1, _, ab.step s1, ds.mono (ab.kp s1), q1, fun l G2 H2 q2 s2 => ?_⟩
  have s12 := s1.trans s2
  refine ⟨δ, G2, _, ab.step s12, ds.mono (ab.kp s12), q2, fun u G3 H3 q3 s3 => ?_⟩
  have s123 := s12.trans s3
  exact ⟨d, G3, R, s3.abs, (r1.mono ((ab.step s1).kp s2)).mono ((ab.step s12).kp s3), q3, fun z G' v' H' q s r => k z G' v' H' q (s123.trans s) r⟩
/-- the items of xs[lo:hi] -/
def cut {α : Type} (xs : List α) (lo hi : Option Int) : List α := (xs.drop (HT.sIx xs.length 0 lo)).take (HT.sIx xs.length xs.length hi - HT.sIx xs.length 0 lo)
theorem DenL.cut {K : PySem.W.Frag} {H : Hp} {ds : List D} {vs : List V} (h : DenL K H ds vs) (lo hi : Option Int) : DenL K H (DD.cut ds lo hi) (cutV vs lo hi) := by
  unfold DD.cut cutV
  rw [h.length]
  exact (h.drop _).take _
theorem cut_all {α : Type} {xs : List α} {lo hi : Option Int} (h : HT.sIx xs.length 0 lo = 0 ∧ HT.sIx xs.length xs.length hi = xs.length) : cut xs lo hi = xs := by
  unfold cut
  rw [h.1, h.2]
  simp
/-- x[lo:hi] of a text, a tuple, a list -/
def rSl : DRSl := fun d lo hi G Q => match d with
  | .str z => Q (.str ⟨(cut z.cps.toList lo hi).toArray⟩) G
  | .tup ds => Q (.tup (cut ds lo hi)) G
  | .ref a => (match G a with
    | some (.lst ds) => ∀ p, G p = none → Q (.ref p) (gup G p (.lst (cut ds lo hi)))
    | _ => False)
  | _ => False
theorem cut_le {α : Type} (xs : List α) (lo hi : Option Int) : (cut xs lo hi).length ≤ xs.length := by
  unfold cut
  rw [List.length_take, List.length_drop]
  omega
theorem sl_D : SlD X rSl := by
  intro pins s σ H x v vl vu lo hi sl Q I rx hs pl pu h
  obtain ⟨d, G, R, A, r, q, k⟩ := h
  unfold rSl at q
  split at q
  · rename_i z
    cases r with
    | str _ hz =>
      have e : (⟨(cut z.cps.toList lo hi).toArray⟩ : Str) = cutS z lo hi := by
        unfold cut cutS
        have e2 : z.cps.toList.length = z.length := by show _ = z.cps.size; simp
        rw [e2]
      refine sl_str pins s σ H _ v vl vu lo hi sl Q I rx hs pl pu ⟨z, rfl, hz, ?_⟩
      rw [← e]
      refine k _ G _ H q (.refl A) (.str _ (Nat.le_trans ?_ hz))
      show (cut z.cps.toList lo hi).toArray.size ≤ z.cps.size
      have := cut_le z.cps.toList lo hi
      simpa using this
  · rename_i ds
    cases r with
    | tup hq hl =>
      rename_i a us
      refine sl_tupA pins s σ H _ v vl vu lo hi sl Q I rx hs pl pu ⟨a, us, rfl, hq, fun hw => ?_, fun _ p hp => ?_⟩
      · rw [← hl.length] at hw
        rw [cut_all hw] at q
        exact k _ G _ H q (.refl A) (.tup hq hl)
      · exact k _ G _ _ q (Step.hidden A hp) (.tup (.of upd_same) ((hl.cut lo hi).mono (.alloc hp)))
  · rename_i a
    cases r
    split at q
    · rename_i ds e
      obtain ⟨us, hu, hl⟩ := A a _ e
      refine sl_list pins s σ H _ v vl vu lo hi sl Q I rx hs pl pu ⟨a, us, rfl, .of hu, fun p hp => ?_⟩
      exact k _ _ _ _ (q p (A.none hp)) (Step.alloc A hp ⟨_, upd_same, (hl.cut lo hi).mono (.alloc hp)⟩) (.ref p)
    · exact q.elim
  · exact q.elim

/-! ### fields of own instances -/
theorem fld_lookup {K : PySem.W.Frag} {H : Hp} {f : Str} {d : D} : ∀ {fs : List (Str × D)} {vfs : List (Str × V)}, Paired (FldR K H) fs vfs → fs.lookup f = some d → ∃ v, vfs.lookup f = some v ∧ Den K H d v
  | _, _, .nil, e => by simp at e
  | (n, x) :: fs, (m, y) :: vfs, .cons h t, e => by
    obtain ⟨h1, h2⟩ := h
    have h1 : n = m := h1
    subst h1
    rw [List.lookup_cons] at e ⊢
    cases q : (f == n) with
    | true =>
      rw [q] at e
      cases e
      exact ⟨y, rfl, h2⟩
    | false =>
      rw [q] at e
      exact fld_lookup t e
theorem fld_none {K : PySem.W.Frag} {H : Hp} {f : Str} : ∀ {fs : List (Str × D)} {vfs : List (Str × V)}, Paired (FldR K H) fs vfs → fs.lookup f = none → vfs.lookup f = none
  | _, _, .nil, e => rfl
  | (n, x) :: fs, (m, y) :: vfs, .cons h t, e => by
    obtain ⟨h1, h2⟩ := h
    have h1 : n = m := h1
    subst h1
    rw [List.lookup_cons] at e ⊢
    cases q : (f == n) with
    | true => rw [q] at e; cases e
    | false =>
      rw [q] at e
      exact fld_none t e
def dputF (f : Str) (d : D) : List (Str × D) → List (Str × D)
  | [] => [(f, d)]
  | p :: r => if p.1 = f then (p.1, d) :: r else p :: dputF f d r
theorem fld_put {K : PySem.W.Frag} {H : Hp} {f : Str} {d : D} {v : V} (r : Den K H d v) : ∀ {fs : List (Str × D)} {vfs : List (Str × V)}, Paired (FldR K H) fs vfs → Paired (FldR K H) (dputF f d fs) (putF f v vfs)
  | _, _, .nil => .cons ⟨rfl, r⟩ .nil
  | (n, x) :: fs, (m, y) :: vfs, .cons h t => by
    have h1 : n = m := h.1
    subst h1
    show Paired (FldR K H) (if n = f then (n, d) :: fs else (n, x) :: dputF f d fs) (if n = f then _ else _)
    by_cases z : n = f
    · rw [if_pos z, if_pos z]
      exact .cons ⟨rfl, r⟩ t
    · rw [if_neg z, if_neg z]
      exact .cons h (fld_put r t)
def dFld (C : Addr) (f : Str) (To : DTE) : DTE := fun δ G Q => To δ G fun d G1 => match d with
  | .ref a => (match G1 a with
    | some (.ins C' fs) => C' = C ∧ ob (fs.lookup f) fun d => Q d G1
    | _ => False)
  | _ => False
theorem de_fld {C : Addr} {f : Str} (cl : Cls X.K C) (na : NoAttr X.K C f) (ho : DE X ρ o To) (hb : attributeBase o f X.env (eval o X.env) = eval o X.env := by rfl) : DE X ρ (.Attribute o f pos) (dFld C f To) := by
  refine L2.PE.imp (pe_fld ho hb) fun σ H Q ⟨δ, G, R, ab, ds, t, k⟩ => ?_
  refine ⟨δ, G, _, ab, ds, t, fun d G1 v H1 q s r => ?_⟩
  split at q
  · rename_i a
    cases r
    split at q
    · rename_i C' fs e
      obtain ⟨rfl, q⟩ := q
      obtain ⟨dx, vfs, hv, pr⟩ := s.abs a _ e
      obtain ⟨d', e2, q⟩ := ob_iff.mp q
      obtain ⟨v', l, r'⟩ := fld_lookup pr e2
      exact ⟨a, C', dx, vfs, v', rfl, hv, cl, na, l, k d' G1 v' H1 q s r'⟩
    · exact q.elim
  · exact q.elim
def dSetF (C : Addr) (f : Str) (To Te : DTE) : DTS := fun E δ G => Te δ G fun y G1 => To δ G1 fun d G2 => match d with
  | .ref a => (match G2 a with
    | some (.ins C' fs) => C' = C ∧ fs.length < 1000 ∧ E.nx δ (gup G2 a (.ins C (dputF f y fs)))
    | _ => False)
  | _ => False
theorem Paired.len {α β : Type} {F : α → β → Prop} : ∀ {l₁ : List α} {l₂ : List β}, Paired F l₁ l₂ → l₁.length = l₂.length
  | _, _, .nil => rfl
  | _, _, .cons _ t => congrArg (· + 1) (Paired.len t)
theorem ds_fld {C : Addr} {f : Str} {pos' : Pos} (cl : Cls X.K C) (na : NoAttr X.K C f) (ho : DE X ρ o To) (he : DE X ρ e Te) (hs : swapsWith e (some (.Attribute o f pos')) pos.line X.env = pure false := by rfl) : DS X ρ (.Assign [.Attribute o f pos'] e pos) (dSetF C f To Te) := by
  refine L2.PS.imp (ps_fld ho he hs) fun D σ H ⟨δ, G, E, ab, ds, t, k1, _⟩ => ?_
  refine ⟨δ, G, _, ab, ds, t, fun y G1 vy H1 q1 s1 r1 => ?_⟩
  refine ⟨δ, G1, _, ab.step s1, ds.mono (ab.kp s1), q1, fun d G2 v H2 q2 s2 r2 => ?_⟩
  have s12 := s1.trans s2
  split at q2
  · rename_i a
    cases r2
    split at q2
    · rename_i C' fs e2
      obtain ⟨rfl, hl, q⟩ := q2
      obtain ⟨dx, vfs, hv, pr⟩ := s2.abs a _ e2
      refine ⟨a, C', dx, vfs, rfl, hv, cl, na, by rw [← Paired.len pr]; exact hl, ?_⟩
      have ry : Den X.K H2 y vy := r1.mono ((ab.step s1).kp s2)
      have kw : Kp X.K H2 (upd H2 a (.ins C' dx (putF f vy vfs))) := .write s2.abs e2
      have s3 := Step.write (o := .ins C' (dputF f y fs)) (u := .ins C' dx (putF f vy vfs)) s2.abs e2 ⟨dx, _, upd_same, fld_put (ry.mono kw) (Paired.mapP pr fun p z h => ⟨h.1, h.2.mono kw⟩)⟩
      exact k1 _ _ _ _ q (s12.trans s3) (ds.mono (ab.kp (s12.trans s3)))
    · exact q2.elim
  · exact q2.elim

/-! ### methods of built-in types -/
/-- the receiver's type -/
def isTy (T : String) (d : D) (G : DG) : Prop := match d with
  | .str _ => T = "str"
  | .ref a => (match G a with
    | some (.lst _) => T = "list"
    | some (.dct _) => T = "dict"
    | _ => False)
  | _ => False
theorem isTy_is {pins : List (Addr × Obj)} {σ : L2.St} {H : Hp} {s : Shared} {G : DG} {T : String} {d : D} {x : V} {v : Value} (I : Inv X pins σ H s) (A : AbsG X.K X.w H G) (rd : Den X.K H d x) (r : RelV x v) (ty : isTy T d G) :
    s.TypeIs v T ∧ ∀ a, v = .ref a → ∃ ob, s.heap.get? a = some ob ∧ ob.dict = none := by
  unfold isTy at ty
  split at ty
  · cases rd
    exact tyV_is I r ty
  · rename_i a
    cases rd
    split at ty
    · rename_i ds e
      subst ty
      obtain ⟨us, hu, _⟩ := A a _ e
      exact tyV_is I r (.inl ⟨rfl, us, .of hu⟩)
    · rename_i es e
      subst ty
      obtain ⟨_, _, raw, hr, _⟩ := A a _ e
      obtain ⟨⟨ob, es', ep, e1, e2, _⟩, _⟩ := I.hok a _ hr
      cases r
      exact ⟨⟨ob, e1, e2.1⟩, fun b z => by cases z; exact ⟨ob, e1, e2.2.1⟩⟩
    · exact ty.elim
  · exact ty.elim
abbrev DRM := D → List D → DG → DK → Prop
def lRM (K : PySem.W.Frag) (w : World) (r : DRM) : V → List V → Hp → VK → Prop := fun x xs H Q => ∃ d ds G R, AbsG K w H G ∧ Den K H d x ∧ DenL K H ds xs ∧ r d ds G R ∧ ∀ z G' v H', R z G' → Step K w H G H' G' → Den K H' z v → Q v H'
def MtD (X : Cx) (id : String) (r : DRM) : Prop := MtR X id (lRM X.K X.w r)
def dBM (T : String) (r : DRM) (To : DTE) (TA : DTA) : DTE := fun δ G Q => To δ G fun d G1 => isTy T d G1 ∧ TA δ G1 fun ds G2 => r d ds G2 Q
variable {name : Str} {apos cpos : Pos} {T id : String} {r : DRM}
theorem de_bm0 (pa : PlainAttrs T) (slot : Slot T name id) (hty : typeOf (.builtin id) = pure (.type "method_descriptor")) (hm : MtD X id r) (ho : DE X ρ o To)
    (hbase : attributeBase o name X.env (eval o X.env) = eval o X.env := by rfl) (hline : (apos.endLine == cpos.line) = true := by rfl) : DE X ρ (.Call (.Attribute o name apos) [] [] cpos) (dBM T r To dNil) := by
  refine ⟨fun pins s σ H Q I ⟨δ, G, R, ab, ds, t, k⟩ => ?_⟩
  refine wpAny_Call_method0_late hbase hline (thn (L2.PE.run ho pins s σ H _ I ⟨δ, G, _, ab, ds, t, fun d G1 v H1 q s1 r1 => (⟨d, G1, q.1, q.2, s1, r1⟩ : ∃ d G1, isTy T d G1 ∧ r d [] G1 R ∧ Step X.K X.w H G H1 G1 ∧ Den X.K H1 d v)⟩) fun v s1 ⟨x, H1, I1, rx, d, G1, ty, q, st, rd⟩ => ?_)
  obtain ⟨h1, h2⟩ := isTy_is I1 st.abs rd rx ty
  exact ⟨T, id, pa, slot, hty, h1, h2, Calls.callWith_builtin rfl (PySem.evalArgs_none (hm pins s1 σ H1 x [] v [] Q I1 rx .nil ⟨d, [], G1, R, st.abs, rd, .nil, q, fun z G' v' H' q' s' r' => k z G' v' H' q' (st.trans s') r'⟩))⟩
theorem de_bm (pa : PlainAttrs T) (slot : Slot T name id) (hty : typeOf (.builtin id) = pure (.type "method_descriptor")) (hm : MtD X id r) (ho : DE X ρ o To) (ha : DA X ρ (e :: es) TA)
    (hbase : attributeBase o name X.env (eval o X.env) = eval o X.env := by rfl)
    (hfew : ((backTo cpos (starEach (e :: es) X.env)).all (fun x => !x.1) && (backToKw cpos (keywordEach [] X.env)).all (fun x => x.1.isSome)
      && decide ((e :: es).length + ([] : List Keyword).length + (if ([] : List Keyword).isEmpty then 0 else 1) < 30)) = true := by rfl)
    (hline : (apos.endLine == cpos.line) = true := by rfl) (hs : starEach (e :: es) X.env = (false, eval e X.env) :: starEach es X.env := by rfl) (hplain : (backTo cpos (starEach es X.env)).any (·.1) = false := by rfl) :
    DE X ρ (.Call (.Attribute o name apos) (e :: es) [] cpos) (dBM T r To TA) := by
  refine ⟨fun pins s σ H Q I ⟨δ, G, R, ab, ds, t, k⟩ => ?_⟩
  refine wpAny_Call_method_late hbase hfew hline rfl (thn (L2.PE.run ho pins s σ H _ I ⟨δ, G, _, ab, ds, t, fun d G1 v H1 q s1 r1 => (⟨d, G1, q.1, q.2, s1, r1⟩ : ∃ d G1, isTy T d G1 ∧ TA δ G1 (fun ds G2 => r d ds G2 R) ∧ Step X.K X.w H G H1 G1 ∧ Den X.K H1 d v)⟩) fun v s1 ⟨x, H1, I1, rx, d, G1, ty, q, st, rd⟩ => ?_)
  obtain ⟨h1, h2⟩ := isTy_is I1 st.abs rd rx ty
  refine ⟨T, id, pa, slot, hty, h1, h2, ?_⟩
  have hA := L2.PA.run ha cpos pins s1 σ H1 (fun xs H2 => lRM X.K X.w r x xs H2 Q) I1 ⟨δ, G1, _, ab.step st, ds.mono (ab.kp st), q, fun ds' G2 us H2 q2 s2 r2 _ =>
    ⟨d, ds', G2, R, s2.abs, rd.mono ((ab.step st).kp s2), r2, q2, fun z G' v' H' q' s' r' => k z G' v' H' q' ((st.trans s2).trans s') r'⟩⟩
  rw [hs] at hA ⊢
  refine Calls.callWith_builtin (by show (false || (backTo cpos (starEach es X.env)).any (·.1)) = false; rw [hplain] <;> rfl) (Calls.evalArgs_plain ?_)
  exact thn hA fun us s2 ⟨ws, H2, I2, r2, q2⟩ => hm pins s2 σ H2 x ws v us Q I2 rx r2 q2
end

/-! ### what a def promises, deep -/
def lsp (K : PySem.W.Frag) (w : World) (sp : DSp) : Sp := fun vs H Q E => ∃ ds G R RE, DenL K H ds vs ∧ AbsG K w H G ∧ sp ds G R RE ∧
  (∀ d G' v H', R d G' → Step K w H G H' G' → Den K H' d v → Q v H') ∧ (∀ c G' H', RE c G' → Step K w H G H' G' → E (.ref c) none H')
/-- what the wish of exceptions means here -/
def Hex {K : PySem.W.Frag} {w : World} (ρ : Rg K w) (ex : DX) (W : WX) : Prop := ∀ c G' H' σ, ex c G' → AbsG K w H' G' → ρ.R H' G' → W (.ref c) none σ H'
def ex0 : DX := fun _ _ => False
abbrev W0 : WX := fun _ _ _ _ => False
theorem hex0 {K : PySem.W.Frag} {w : World} {ρ : Rg K w} {W : WX} : Hex ρ ex0 W := fun _ _ _ _ h => h.elim
theorem pass00 {X : Cx} {W : WX} : ∀ σ, PassesAt CX0 X σ (WE W σ) := fun _ _ _ _ _ _ _ h => h.elim
section
variable {X : Cx} {ρ : Rg X.K X.w} {a b c e o : Expr} {Ta Tb Tc Te To : DTE} {pos apos p : Pos} {vs : List Nat} {es : List Expr} {TA : DTA}
  {CX : CXT} {k : Nat} {f C : Addr} {fd : FuncData} {ps : List Str} {sp : DSp} {ex : DX} {W : WX} {x m : Str}
def dCall (sp : DSp) (ex : DX) (TA : DTA) : DTE := fun δ G Q => TA δ G fun ds G1 => sp ds G1 Q ex
theorem lCall {n : Nat} {σ : L2.St} {H : Hp} {Q : VK} (hex : Hex ρ ex W) (h : lE ρ (dCall sp ex TA) σ H Q) : tCallS (lsp X.K X.w sp) (WE W) (lA ρ n TA) σ H Q := by
  obtain ⟨δ, G, R, ab, ds, t, k⟩ := h
  refine ⟨δ, G, _, ab, ds, t, fun ds' G1 us H1 q s r _ => ?_⟩
  exact ⟨ds', G1, R, ex, r, s.abs, q, fun d G' v H' q' s' r' => k d G' v H' q' (s.trans s') r', fun c G' H' q' s' => hex c G' H' σ q' s'.abs (ρ.cl (ρ.cl ab.reg s) s')⟩
theorem de_call (F : FnOk X.prog X.w X.K X.mg X.base CX k f fd ps (lsp X.K X.w sp)) (hr : Room k X.A) (hg : Gl X x) (hm : X.mg x = some (.ref f)) (hk : PySem.W.keepIn X.K (.ref f) = true) (hb : Binds X.K fd ps []) (hx : ∀ σ, PassesAt CX X σ (WE W σ)) (hex : Hex ρ ex W)
    (ha : DA X ρ (e :: es) TA) (hdb : (x == ("__debug__" : Str)) = false := by decide) (he : starEach (e :: es) X.env = (false, eval e X.env) :: starEach es X.env := by rfl) (hpl : (backTo pos (starEach es X.env)).any (·.1) = false := by rfl) :
    DE X ρ (.Call (.Name x p) (e :: es) [] pos) (dCall sp ex TA) := L2.PE.imp (pe_callS F hr hg hm hk hb hx ha hdb he hpl) fun _ _ _ h => lCall hex h
/-- o.m(e, ..) of an own instance; what is raised is wished for at the slots -/
def dMeth (C : Addr) (m : Str) (sp : DSp) (ex : DX) (To : DTE) (TA : DTA) : DTE := fun δ G Q => To δ G fun d G1 => match d with
  | .ref a => (match G1 a with
    | some (.ins C' fs) => C' = C ∧ fs.lookup m = none ∧ TA δ G1 fun ds G2 => sp (.ref a :: ds) G2 Q ex
    | _ => False)
  | _ => False
theorem de_meth {pl : Sem Bool} (c : Cls X.K C) (hm : Meth X.K C m f) (F : FnOk X.prog X.w X.K X.mg X.base CX k f fd ps (lsp X.K X.w sp)) (hr : Room k X.A) (hb : Binds X.K fd ps []) (hx : ∀ σ, PassesAt CX X σ (WE W σ)) (hex : Hex ρ ex W) (ho : DE X ρ o To) (ha : DA X ρ (e :: es) TA)
    (hst : starEach (e :: es) X.env = (false, eval e X.env) :: starEach es X.env := by rfl) (hpl : (backTo pos (starEach es X.env)).any (·.1) = false := by rfl)
    (ht : eval (.Call (.Attribute o m apos) (e :: es) [] pos) X.env = (do
      let ov ← eval o X.env
      standAt apos.atName
      let (f, first) ← holding [ov] (getMethod ov m pl)
      callWith pos f first (backTo pos (starEach (e :: es) X.env)) (backToKw pos (keywordEach [] X.env))) := by rfl) :
    DE X ρ (.Call (.Attribute o m apos) (e :: es) [] pos) (dMeth C m sp ex To TA) := by
  refine ⟨fun pins s σ H Q I ⟨δ, G, R, ab, ds, t, kk⟩ => ?_⟩
  refine PySem.W.methodCall_KW (pl := pl) (thn (L2.PE.run ho pins s σ H _ I ⟨δ, G, _, ab, ds, t, fun d G1 v H1 q s1 r1 => (⟨d, G1, q, s1, r1⟩ : ∃ d G1, (match d with
    | .ref a => (match G1 a with
      | some (.ins C' fs) => C' = C ∧ fs.lookup m = none ∧ TA δ G1 fun ds G2 => sp (.ref a :: ds) G2 R ex
      | _ => False)
    | _ => False) ∧ Step X.K X.w H G H1 G1 ∧ Den X.K H1 d v)⟩) fun u s1 ⟨x, H1, I1, rx, d, G1, q, st, rd⟩ => ?_) ht
  split at q
  · rename_i a
    cases rd
    split at q
    · rename_i C' fs eg
      obtain ⟨rfl, l, q⟩ := q
      obtain ⟨dx, vfs, hv, pr⟩ := st.abs a _ eg
      obtain rfl : u = Value.ref a := rx
      refine getmeth_ok I1 hv c hm (fld_none pr l) ?_
      refine PySem.W.callWith_K (first := [.ref a]) (h₀ := X.base) I.ok.mod.kin hm.kp (thn (L2.PA.run ha pos pins s1 σ H1 (fun us H2 => lsp X.K X.w sp (.ref a :: us) H2 Q (WE W σ)) I1 ⟨δ, G1, _, ab.step st, ds.mono (ab.kp st), q, fun ds' G2 us H2 q2 s2 r2 _ =>
        ⟨.ref a :: ds', G2, R, ex, .cons (.ref a) r2, s2.abs, q2, fun d' G' v' H' q' s' r' => kk d' G' v' H' q' ((st.trans s2).trans s') r', fun c G' H' q' s' => hex c G' H' σ q' s'.abs (ρ.cl (ρ.cl (ρ.cl ab.reg st) s2) s')⟩⟩) fun us s2 ⟨ws, H2, I2, r, q2⟩ => ⟨I2.kIn, ?_⟩) hst hpl
      exact run_fnS (us := .ref a :: us) (vs := .ref a :: ws) (E := WE W) F hr hb (hx σ) I2 (.cons rfl r) q2
    · exact q.elim
  · exact q.elim
theorem de_meth0 {pl : Sem Bool} (c : Cls X.K C) (hm : Meth X.K C m f) (F : FnOk X.prog X.w X.K X.mg X.base CX k f fd ps (lsp X.K X.w sp)) (hr : Room k X.A) (hb : Binds X.K fd ps []) (hx : ∀ σ, PassesAt CX X σ (WE W σ)) (hex : Hex ρ ex W) (ho : DE X ρ o To)
    (ht : eval (.Call (.Attribute o m apos) [] [] pos) X.env = (do
      let ov ← eval o X.env
      standAt apos.atName
      let (f, first) ← holding [ov] (getMethod ov m pl)
      callWith pos f first (backTo pos (starEach [] X.env)) (backToKw pos (keywordEach [] X.env))) := by rfl) :
    DE X ρ (.Call (.Attribute o m apos) [] [] pos) (dMeth C m sp ex To dNil) := by
  refine ⟨fun pins s σ H Q I ⟨δ, G, R, ab, ds, t, kk⟩ => ?_⟩
  refine PySem.W.methodCall_KW (pl := pl) (thn (L2.PE.run ho pins s σ H _ I ⟨δ, G, _, ab, ds, t, fun d G1 v H1 q s1 r1 => (⟨d, G1, q, s1, r1⟩ : ∃ d G1, (match d with
    | .ref a => (match G1 a with
      | some (.ins C' fs) => C' = C ∧ fs.lookup m = none ∧ sp (.ref a :: []) G1 R ex
      | _ => False)
    | _ => False) ∧ Step X.K X.w H G H1 G1 ∧ Den X.K H1 d v)⟩) fun u s1 ⟨x, H1, I1, rx, d, G1, q, st, rd⟩ => ?_) ht
  split at q
  · rename_i a
    cases rd
    split at q
    · rename_i C' fs eg
      obtain ⟨rfl, l, q⟩ := q
      obtain ⟨dx, vfs, hv, pr⟩ := st.abs a _ eg
      obtain rfl : u = Value.ref a := rx
      refine getmeth_ok I1 hv c hm (fld_none pr l) ?_
      refine PySem.W.callWith_K0 (first := [.ref a]) I1.kIn hm.kp (run_fnS (us := [.ref a]) (vs := [.ref a]) (E := WE W) F hr hb (hx σ) I1 (.cons rfl .nil) ?_)
      exact ⟨[.ref a], G1, R, ex, .cons (.ref a) .nil, st.abs, q, fun d' G' v' H' q' s' r' => kk d' G' v' H' q' (st.trans s') r', fun c G' H' q' s' => hex c G' H' σ q' s'.abs (ρ.cl (ρ.cl ab.reg st) s')⟩
    · exact q.elim
  · exact q.elim
/-- C(e, ..) of an own class -/
def dMake (C : Addr) (sp : DSp) (TA : DTA) : DTE := fun δ G Q => TA δ G fun ds G1 => ∀ x, G1 x = none → sp (.ref x :: ds) (gup G1 x (.ins C [])) (fun v G2 => v = .non ∧ Q (.ref x) G2) ex0
theorem de_make (M : Mk X.K C f) (F : FnOk X.prog X.w X.K X.mg X.base CX0 k f fd ps (lsp X.K X.w sp)) (hr : Room (k + 1) X.A) (hg : Gl X x) (hm : X.mg x = some (.ref C)) (hb : Binds X.K fd ps [])
    (ha : DA X ρ (e :: es) TA) (hdb : (x == ("__debug__" : Str)) = false := by decide) (he : starEach (e :: es) X.env = (false, eval e X.env) :: starEach es X.env := by rfl) (hpl : (backTo pos (starEach es X.env)).any (·.1) = false := by rfl) :
    DE X ρ (.Call (.Name x p) (e :: es) [] pos) (dMake C sp TA) := by
  refine L2.PE.imp (pe_make M F hr hg hm hb .nil (pass0 (X := X)) ha hdb he hpl) fun σ H Q ⟨δ, G, R, ab, ds, t, kk⟩ => ?_
  refine ⟨δ, G, _, ab, ds, t, fun ds' G1 us H1 q s r _ x dx nx ndx ne => ?_⟩
  have s1 := Step.hidden (u := .own x) s.abs ndx
  have nx1 : (upd H1 dx (.own x)) x = none := by rw [upd_ne (Ne.symm ne)]; exact nx
  have s2 := Step.alloc (o := .ins C []) (u := .ins C dx []) s1.abs nx1 ⟨dx, [], upd_same, .nil⟩
  have s12 := s1.trans s2
  rw [List.append_nil]
  refine ⟨.ref x :: ds', gup G1 x (.ins C []), _, ex0, .cons (.ref x) (r.mono (s12.kp s.abs)), s12.abs, q x (s.abs.none nx), fun d G' v H' q' s' r' => ?_, fun _ _ _ h => h.elim⟩
  obtain ⟨rfl, q'⟩ := q'
  cases r'
  exact ⟨rfl, kk _ _ _ _ q' ((s.trans s12).trans s') (.ref x)⟩
end

/-! ### the def's own rule -/
def dstart (N : List Str) (ds : List D) : DSt := ds.map some ++ List.replicate (N.length - ds.length) none
theorem start_den {K : PySem.W.Frag} {H : Hp} {N : List Str} {ds : List D} {us : List V} (h : DenL K H ds us) : DenS K H (dstart N ds) (start N us) := by
  refine ⟨by simp [dstart, L2.start, h.length], fun i d e => ?_⟩
  unfold dstart at e
  unfold L2.start
  by_cases l : i < ds.length
  · rw [List.getElem?_append_left (by simpa using l), List.getElem?_map] at e
    cases q : ds[i]? with
    | none => rw [q] at e; cases e
    | some d' =>
      rw [q] at e
      cases e
      obtain ⟨v, hv, r⟩ := h.get q
      refine ⟨v, ?_, r⟩
      rw [List.getElem?_append_left (by simp; rw [← h.length]; exact l), List.getElem?_map, hv]
      rfl
  · rw [List.getElem?_append_right (by simpa using l)] at e
    have := List.mem_of_getElem? e
    rw [List.mem_replicate] at this
    cases this.2
section
variable {P : Program} {w : World} {K : PySem.W.Frag} {mg : Str → Option Value} {base : Heap} {nm qual : Str} {st : Stmt} {f : Addr} {fd : FuncData} {N ps : List Str} {k : Nat} {sp : DSp}
theorem dfn (F : Fun K nm qual st f fd) (S : FnScope N ps (defScope st)) (T : DTS) (len : ∀ ds G R RE, sp ds G R RE → ds.length = ps.length)
    (der : ∀ (cdv : Value) (A : Around) (outer : List Env) (s : Shared) (H : Hp) (E : XK), Room k (A.deeper (envOfC qual (defScope st) s.heap.objs.size f cdv)) →
      DSs (cxOf CX0 P w K mg base N qual (defScope st) f cdv A outer s H E).nox (Rg.top K w) (defBody st) T)
    (pure : ∀ ds G R RE, sp ds G R RE → T { nx := fun _ G' => R .non G', rt := R } (dstart N ds) G) : FnOk P w K mg base CX0 (k + 1) f fd ps (lsp K w sp) := by
  refine F.ok S (fun vs H Q E ⟨ds, G, R, RE, r, _, h, _⟩ => by rw [← r.length]; exact len _ _ _ _ h) fun cdv A outer s H vs Q E hr ⟨ds, G, R, RE, r, ab, h, k1, _⟩ => ⟨_, der cdv A outer s H E hr, ?_⟩
  refine ⟨dstart N ds, G, _, ⟨ab, trivial⟩, start_den r, pure ds G R RE h, fun δ' G' σ' H' q s' d' => k1 .non G' .non H' q s' .non, fun d G' v H' q s' r' => k1 d G' v H' q s' r', fun _ _ _ _ q => q.elim, fun _ _ _ _ q => q.elim⟩
/-- .. of a def that may raise -/
theorem dfnX (F : Fun K nm qual st f fd) (S : FnScope N ps (defScope st)) (T : DX → DTS) (len : ∀ ds G R RE, sp ds G R RE → ds.length = ps.length)
    (der : ∀ (cdv : Value) (A : Around) (outer : List Env) (s : Shared) (H : Hp) (E : XK) (ρ : Rg K w) (ex : DX), Room k (A.deeper (envOfC qual (defScope st) s.heap.objs.size f cdv)) → Hex ρ ex (fun cls d _ H => E cls d H) →
      DSs (cxOf (L2.CX P w) P w K mg base N qual (defScope st) f cdv A outer s H E) ρ (defBody st) (T ex))
    (pure : ∀ ds G R RE, sp ds G R RE → T RE { nx := fun _ G' => R .non G', rt := R } (dstart N ds) G) : FnOk P w K mg base (L2.CX P w) (k + 1) f fd ps (lsp K w sp) := by
  refine F.okX S (fun vs H Q E ⟨ds, G, R, RE, r, _, h, _⟩ => by rw [← r.length]; exact len _ _ _ _ h) fun cdv A outer s H vs Q E hr ⟨ds, G, R, RE, r, ab, h, k1, k2⟩ => ⟨_, der cdv A outer s H E (Rg.from K w H G) RE hr (fun c G' H' σ q _ st => k2 c G' H' q st), ?_⟩
  refine ⟨dstart N ds, G, _, ⟨ab, .refl ab⟩, start_den r, pure ds G R RE h, fun δ' G' σ' H' q s' d' => k1 .non G' .non H' q s' .non, fun d G' v H' q s' r' => k1 d G' v H' q s' r', fun _ _ _ _ q => q.elim, fun _ _ _ _ q => q.elim⟩

/-! ### promises of defs that leave the heap as it is -/
/-- what it tells hangs on the arguments alone -/
def spP (Rl : List D → D → Prop) : DSp := fun ds G R _ => ∃ d, Rl ds d ∧ R d G
/-- .. at the empty heap -/
def spP0 (Rl : List D → D → Prop) : DSp := fun ds G R _ => ∃ d, Rl ds d ∧ G = g0 ∧ R = fun d' _ => d' = d
theorem spP_of {CX : CXT} {Rl : List D → D → Prop} (F : FnOk P w K mg base CX k f fd ps (lsp K w (spP0 Rl))) : FnOk P w K mg base CX k f fd ps (lsp K w (spP Rl)) := by
  refine F.imp fun vs H Q E ⟨ds, G, R, RE, r, ab, ⟨d, h1, h2⟩, k1, k2⟩ => ?_
  refine ⟨ds, g0, fun d' _ => d' = d, fun _ _ => False, r, .empty, ⟨d, h1, rfl, rfl⟩, fun d' G' v H' e s rd => ?_, fun _ _ _ h => h.elim⟩
  subst e
  exact k1 _ _ _ _ h2 (s.pure ab) rd
/-- a new object -/
def spN (Rl : List D → O → Prop) : DSp := fun ds G R _ => ∃ o, Rl ds o ∧ ∀ p, G p = none → R (.ref p) (gup G p o)
def spN0 (Rl : List D → O → Prop) : DSp := fun ds G R _ => ∃ o, Rl ds o ∧ G = g0 ∧ R = fun d G' => ∃ p, d = .ref p ∧ G' p = some o
theorem spN_of {CX : CXT} {Rl : List D → O → Prop} (F : FnOk P w K mg base CX k f fd ps (lsp K w (spN0 Rl))) : FnOk P w K mg base CX k f fd ps (lsp K w (spN Rl)) := by
  refine F.imp fun vs H Q E ⟨ds, G, R, RE, r, ab, ⟨o, h1, h2⟩, k1, k2⟩ => ?_
  refine ⟨ds, g0, fun d G' => ∃ p, d = .ref p ∧ G' p = some o, fun _ _ => False, r, .empty, ⟨o, h1, rfl, rfl⟩, fun d' G' v H' ⟨p, e1, e2⟩ s rd => ?_, fun _ _ _ h => h.elim⟩
  subst e1
  obtain ⟨np, st⟩ := s.pureNew ab e2
  exact k1 _ _ _ _ (h2 p np) st rd
/-- a weaker promise -/
theorem fn_imp {CX : CXT} {sp sp' : DSp} (F : FnOk P w K mg base CX k f fd ps (lsp K w sp)) (h : ∀ ds G R RE, sp' ds G R RE → sp ds G R RE) : FnOk P w K mg base CX k f fd ps (lsp K w sp') :=
  F.imp fun vs H Q E ⟨ds, G, R, RE, r, ab, q, k1, k2⟩ => ⟨ds, G, R, RE, r, ab, h _ _ _ _ q, k1, k2⟩
end
end DD

/-! D-layer 6: equality -/
namespace DD
open PySem PySem.Spec PyProof.Rows L2 SeqAt

/-- data up to ==, lists told -/
inductive Pd where
  | none
  | num (i : Int)
  | text (x : Str)
  | tup (ks : List Pd)
  | lst (ks : List Pd)
mutual
def eqP : Pd → Pd → Bool
  | .none, .none => true
  | .num a, .num b => a == b
  | .text a, .text b => a == b
  | .tup a, .tup b => eqPs a b
  | .lst a, .lst b => eqPs a b
  | .none, .num _ | .none, .text _ | .none, .tup _ | .none, .lst _ => false
  | .num _, .none | .num _, .text _ | .num _, .tup _ | .num _, .lst _ => false
  | .text _, .none | .text _, .num _ | .text _, .tup _ | .text _, .lst _ => false
  | .tup _, .none | .tup _, .num _ | .tup _, .text _ | .tup _, .lst _ => false
  | .lst _, .none | .lst _, .num _ | .lst _, .text _ | .lst _, .tup _ => false
def eqPs : List Pd → List Pd → Bool
  | [], [] => true
  | a :: as, b :: bs => eqP a b && eqPs as bs
  | [], _ :: _ => false
  | _ :: _, [] => false
end
mutual
def dpP : Pd → Nat
  | .none => 0
  | .num _ => 0
  | .text _ => 0
  | .tup ks => dpPs ks + 1
  | .lst ks => dpPs ks + 1
def dpPs : List Pd → Nat
  | [] => 0
  | k :: ks => max (dpP k) (dpPs ks)
end
mutual
theorem eqP_self : ∀ a : Pd, eqP a a = true
  | .none => rfl
  | .num a => by simp [eqP]
  | .text a => by simp [eqP]
  | .tup a => by rw [eqP]; exact eqPs_self a
  | .lst a => by rw [eqP]; exact eqPs_self a
theorem eqPs_self : ∀ a : List Pd, eqPs a a = true
  | [] => rfl
  | a :: as => by rw [eqPs, eqP_self a, eqPs_self as]; rfl
end
mutual
/-- the value v in the heap h is p -/
inductive PIs (h : Heap) : Pd → Value → Prop
  | none : PIs h .none .none
  | bool {b i} : i = (if b = true then 1 else 0) → PIs h (.num i) (.bool b)
  | int (i t) : PIs h (.num i) (.int i t)
  | text (x t) : PIs h (.text x) (.str x t)
  | tup {a o vs n ks} : h.get? a = some o → o.cls = .type "tuple" → o.data = .seq vs n → PAll h ks vs.toList → PIs h (.tup ks) (.ref a)
  | lst {a o vs n ks} : h.get? a = some o → o.cls = .type "list" → o.data = .seq vs n → PAll h ks vs.toList → PIs h (.lst ks) (.ref a)
inductive PAll (h : Heap) : List Pd → List Value → Prop
  | nil : PAll h [] []
  | cons {k v ks vs} : PIs h k v → PAll h ks vs → PAll h (k :: ks) (v :: vs)
end
theorem PAll.length {h : Heap} : ∀ (ks : List Pd) (vs : List Value), PAll h ks vs → vs.length = ks.length
  | [], _, r => by cases r; rfl
  | _ :: ks, _, r => by
    cases r with
    | cons _ r' => simp [PAll.length ks _ r']
mutual
theorem PIs.inj {h : Heap} : ∀ (x y : Pd) (v : Value), PIs h x v → PIs h y v → x = y
  | .none, _, _, hx, hy => by cases hx; cases hy; rfl
  | .num i, _, _, hx, hy => by
    cases hx with
    | bool e => cases hy with | bool e' => rw [e, e']
    | int _ t => cases hy with | int _ t => rfl
  | .text x, _, _, hx, hy => by cases hx; cases hy; rfl
  | .tup ks, _, _, hx, hy => by
    cases hx with
    | tup h1 h2 h3 h4 =>
      cases hy with
      | tup k1 k2 k3 k4 =>
        rw [h1] at k1; cases k1
        rw [h3] at k3; cases k3
        rw [PAll.inj ks _ _ h4 k4]
      | lst k1 k2 k3 k4 =>
        rw [h1] at k1; cases k1
        rw [h2] at k2; injection k2 with z; exact absurd z (by decide)
  | .lst ks, _, _, hx, hy => by
    cases hx with
    | lst h1 h2 h3 h4 =>
      cases hy with
      | lst k1 k2 k3 k4 =>
        rw [h1] at k1; cases k1
        rw [h3] at k3; cases k3
        rw [PAll.inj ks _ _ h4 k4]
      | tup k1 k2 k3 k4 =>
        rw [h1] at k1; cases k1
        rw [h2] at k2; injection k2 with z; exact absurd z (by decide)
theorem PAll.inj {h : Heap} : ∀ (xs ys : List Pd) (vs : List Value), PAll h xs vs → PAll h ys vs → xs = ys
  | [], _, _, hx, hy => by cases hx; cases hy; rfl
  | x :: xs, _, _, hx, hy => by
    cases hx with
    | cons h1 h2 =>
      cases hy with
      | cons k1 k2 => rw [PIs.inj x _ _ h1 k1, PAll.inj xs _ _ h2 k2]
end
abbrev pEqAt (xs ys : List Pd) (j : Nat) : Bool := eqP (xs.getD j .none) (ys.getD j .none)
theorem eqPs_eq : ∀ xs ys : List Pd, ((List.range (min xs.length ys.length)).all (pEqAt xs ys) && xs.length == ys.length) = eqPs xs ys
  | [], [] => rfl
  | [], _ :: _ => by simp [eqPs]
  | _ :: _, [] => by simp [eqPs]
  | x :: xs, y :: ys => by
    have ih := eqPs_eq xs ys
    have e1 : min (x :: xs).length (y :: ys).length = min xs.length ys.length + 1 := by simp only [List.length_cons]; omega
    have e2 : ((x :: xs).length == (y :: ys).length) = (xs.length == ys.length) := by simp
    have e3 : (List.range (min xs.length ys.length + 1)).all (pEqAt (x :: xs) (y :: ys)) = (eqP x y && (List.range (min xs.length ys.length)).all (pEqAt xs ys)) := by
      rw [List.range_succ_eq_map, List.all_cons, List.all_map]
      first | rfl | simp [pEqAt, Function.comp_def]
    rw [e1, e2, e3, eqPs, ← ih, Bool.and_assoc]
theorem eqPs_len {xs ys : List Pd} (h : xs.length ≠ ys.length) : eqPs xs ys = false := by
  rw [← eqPs_eq]
  have : (xs.length == ys.length) = false := by simpa using h
  rw [this, Bool.and_false]
theorem eqPs_same {xs ys : List Pd} (h : xs.length = ys.length) : (List.range xs.length).all (pEqAt xs ys) = eqPs xs ys := by
  rw [← eqPs_eq, ← h]
  simp
theorem _root_.PySem.SeqAt.RcAt.cast {A : Around} {s : Shared} {u v : Value} {b b' : Bool} (h : RcAt A s u v b) (e : b = b') : RcAt A s u v b' := e ▸ h
theorem _root_.PySem.SeqAt.RcNeAt.cast {A : Around} {s : Shared} {u v : Value} {b b' : Bool} (h : RcNeAt A s u v b) (e : b = b') : RcNeAt A s u v b' := e ▸ h

/-- how the items of two sequences compare -/
def ItemsEq (A : Around) (s : Shared) (xs ys : List Pd) (vs ws : Array Value) : Prop := ∀ j (h1 : j < vs.size) (h2 : j < ws.size), EqAt A.in1 s vs[j] ws[j] (pEqAt xs ys j)
section
variable {A : Around} {s : Shared} {l l' : Addr} {o o' : Obj} {vs vs' : Array Value} {n n' : Nat} {xs ys : List Pd} {d : Nat}
theorem size_of (h : PAll s.heap xs vs.toList) : vs.size = xs.length := by simpa using PAll.length _ _ h
theorem rcc_tuple (hl : s.heap.IsTuple l vs) (hl' : s.heap.IsTuple l' vs') (h1 : s.heap.get? l = some o) (h3 : o.data = .seq vs n) (h4 : PAll s.heap xs vs.toList) (k1 : s.heap.get? l' = some o') (k3 : o'.data = .seq vs' n') (k4 : PAll s.heap ys vs'.toList)
    (hu : A.units + min (dpP (.tup xs)) (dpP (.tup ys)) < cLine) (it : A.units + 1 + min (dpPs xs) (dpPs ys) < cLine → ItemsEq A s xs ys vs vs') : RcAt A s (.ref l) (.ref l') (eqP (.tup xs) (.tup ys)) := by
  rw [eqP, ← eqPs_eq xs ys, ← size_of h4, ← size_of k4]
  exact RcAt.tuples hl hl' (room_here hu) (it (room_in hu))
theorem rcc_list (hl : s.heap.IsList l vs) (hl' : s.heap.IsList l' vs') (h1 : s.heap.get? l = some o) (h3 : o.data = .seq vs n) (h4 : PAll s.heap xs vs.toList) (k1 : s.heap.get? l' = some o') (k3 : o'.data = .seq vs' n') (k4 : PAll s.heap ys vs'.toList)
    (hu : A.units + min (dpP (.lst xs)) (dpP (.lst ys)) < cLine) (it : A.units + 1 + min (dpPs xs) (dpPs ys) < cLine → ItemsEq A s xs ys vs vs') : RcAt A s (.ref l) (.ref l') (eqP (.lst xs) (.lst ys)) := by
  have n1 := size_of h4
  have n2 := size_of k4
  rw [eqP]
  by_cases hsz : vs.size = vs'.size
  · rw [← eqPs_same (by omega : xs.length = ys.length), ← n1]
    exact RcAt.lists hl hl' hsz (room_here hu) (it (room_in hu))
  · rw [eqPs_len (by omega : xs.length ≠ ys.length)]
    exact RcAt.lists_lengths hl hl' (by simpa using hsz) (room_here hu)
theorem rnn_tuple (hl : s.heap.IsTuple l vs) (hl' : s.heap.IsTuple l' vs') (h1 : s.heap.get? l = some o) (h3 : o.data = .seq vs n) (h4 : PAll s.heap xs vs.toList) (k1 : s.heap.get? l' = some o') (k3 : o'.data = .seq vs' n') (k4 : PAll s.heap ys vs'.toList)
    (hu : A.units + min (dpP (.tup xs)) (dpP (.tup ys)) < cLine) (it : A.units + 1 + min (dpPs xs) (dpPs ys) < cLine → ItemsEq A s xs ys vs vs') : RcNeAt A s (.ref l) (.ref l') (!eqP (.tup xs) (.tup ys)) := by
  rw [eqP, ← eqPs_eq xs ys, ← size_of h4, ← size_of k4]
  exact RcNeAt.tuples hl hl' (room_here hu) (it (room_in hu))
theorem rnn_list (hl : s.heap.IsList l vs) (hl' : s.heap.IsList l' vs') (h1 : s.heap.get? l = some o) (h3 : o.data = .seq vs n) (h4 : PAll s.heap xs vs.toList) (k1 : s.heap.get? l' = some o') (k3 : o'.data = .seq vs' n') (k4 : PAll s.heap ys vs'.toList)
    (hu : A.units + min (dpP (.lst xs)) (dpP (.lst ys)) < cLine) (it : A.units + 1 + min (dpPs xs) (dpPs ys) < cLine → ItemsEq A s xs ys vs vs') : RcNeAt A s (.ref l) (.ref l') (!eqP (.lst xs) (.lst ys)) := by
  have n1 := size_of h4
  have n2 := size_of k4
  rw [eqP]
  by_cases hsz : vs.size = vs'.size
  · rw [← eqPs_same (by omega : xs.length = ys.length), ← n1]
    exact RcNeAt.lists hl hl' hsz (room_here hu) (it (room_in hu))
  · rw [eqPs_len (by omega : xs.length ≠ ys.length)]
    exact RcNeAt.lists_lengths hl hl' (by simpa using hsz) (room_here hu)
theorem eqq_tuple (hl : s.heap.IsTuple l vs) (hl' : s.heap.IsTuple l' vs') (h1 : s.heap.get? l = some o) (h3 : o.data = .seq vs n) (h4 : PAll s.heap xs vs.toList) (k1 : s.heap.get? l' = some o') (k3 : o'.data = .seq vs' n') (k4 : PAll s.heap ys vs'.toList)
    (hu : A.units + min (dpP (.tup xs)) (dpP (.tup ys)) < cLine) (it : A.units + 1 + min (dpPs xs) (dpPs ys) < cLine → ItemsEq A s xs ys vs vs') : EqAt A s (.ref l) (.ref l') (eqP (.tup xs) (.tup ys)) := by
  by_cases hll : l = l'
  · subst hll
    rw [h1] at k1; cases k1
    rw [h3] at k3; cases k3
    rw [← PAll.inj xs ys _ h4 k4, eqP_self]
    exact EqAt.same _
  · exact EqAt.of_refs hll (rcc_tuple hl hl' h1 h3 h4 k1 k3 k4 hu it)
theorem eqq_list (hl : s.heap.IsList l vs) (hl' : s.heap.IsList l' vs') (h1 : s.heap.get? l = some o) (h3 : o.data = .seq vs n) (h4 : PAll s.heap xs vs.toList) (k1 : s.heap.get? l' = some o') (k3 : o'.data = .seq vs' n') (k4 : PAll s.heap ys vs'.toList)
    (hu : A.units + min (dpP (.lst xs)) (dpP (.lst ys)) < cLine) (it : A.units + 1 + min (dpPs xs) (dpPs ys) < cLine → ItemsEq A s xs ys vs vs') : EqAt A s (.ref l) (.ref l') (eqP (.lst xs) (.lst ys)) := by
  by_cases hll : l = l'
  · subst hll
    rw [h1] at k1; cases k1
    rw [h3] at k3; cases k3
    rw [← PAll.inj xs ys _ h4 k4, eqP_self]
    exact EqAt.same _
  · exact EqAt.of_refs hll (rcc_list hl hl' h1 h3 h4 k1 k3 k4 hu it)
end
theorem rcAt_P {x y : Pd} {A : Around} {s : Shared} {a b : Value} (ra : PIs s.heap x a) (rb : PIs s.heap y b) (hu : A.units + min (dpP x) (dpP y) < cLine)
    (it0 : ∀ xs ys vs vs', (x = .tup xs ∨ x = .lst xs) → PAll s.heap xs vs.toList → PAll s.heap ys vs'.toList → A.units + 1 + min (dpPs xs) (dpPs ys) < cLine → ItemsEq A s xs ys vs vs') : RcAt A s a b (eqP x y) := by
  cases ra with
  | none =>
    cases rb with
    | none => exact (RcAt.none_none).cast (rfl)
    | @bool d _ e' => exact (RcAt.none_bool d).cast (rfl)
    | int y u => exact (RcAt.none_int y u).cast (rfl)
    | text y u => exact (RcAt.none_str y u).cast (rfl)
    | @tup l' o' vs' n' ys k1 k2 k3 k4 => exact RcAt.none_tuple ⟨_, k1, k2, _, k3⟩ (room_here hu)
    | @lst l' o' vs' n' ys k1 k2 k3 k4 => exact RcAt.none_list ⟨_, k1, k2, _, k3⟩ (room_here hu)
  | @bool c _ e =>
    cases rb with
    | none => exact (RcAt.bool_none c).cast (rfl)
    | @bool d _ e' => exact (RcAt.bool_bool c d).cast (by subst e e'; cases c <;> cases d <;> rfl)
    | int y u => exact (RcAt.bool_int c y u).cast (by subst e; rfl)
    | text y u => exact (RcAt.bool_str c y u).cast (rfl)
    | @tup l' o' vs' n' ys k1 k2 k3 k4 => exact RcAt.bool_tuple c ⟨_, k1, k2, _, k3⟩ (room_here hu)
    | @lst l' o' vs' n' ys k1 k2 k3 k4 => exact RcAt.bool_list c ⟨_, k1, k2, _, k3⟩ (room_here hu)
  | int i t =>
    cases rb with
    | none => exact (RcAt.int_none i t).cast (rfl)
    | @bool d _ e' => exact (RcAt.int_bool i t d).cast (by subst e'; rfl)
    | int y u => exact (RcAt.int_int i t y u).cast (rfl)
    | text y u => exact (RcAt.int_str i t y u).cast (rfl)
    | @tup l' o' vs' n' ys k1 k2 k3 k4 => exact RcAt.int_tuple i t ⟨_, k1, k2, _, k3⟩ (room_here hu)
    | @lst l' o' vs' n' ys k1 k2 k3 k4 => exact RcAt.int_list i t ⟨_, k1, k2, _, k3⟩ (room_here hu)
  | text x t =>
    cases rb with
    | none => exact (RcAt.str_none x t).cast (rfl)
    | @bool d _ e' => exact (RcAt.str_bool x t d).cast (rfl)
    | int y u => exact (RcAt.str_int x t y u).cast (rfl)
    | text y u => exact (RcAt.str_str x t y u).cast (rfl)
    | @tup l' o' vs' n' ys k1 k2 k3 k4 => exact RcAt.str_tuple x t ⟨_, k1, k2, _, k3⟩ (room_here hu)
    | @lst l' o' vs' n' ys k1 k2 k3 k4 => exact RcAt.str_list x t ⟨_, k1, k2, _, k3⟩ (room_here hu)
  | @tup l o vs n xs h1 h2 h3 h4 =>
    have hl : s.heap.IsTuple l vs := ⟨_, h1, h2, _, h3⟩
    cases rb with
    | none => exact RcAt.tuple_none hl (room_here hu)
    | @bool d _ e' => exact RcAt.tuple_bool d hl (room_here hu)
    | int y u => exact RcAt.tuple_int y u hl (room_here hu)
    | text y u => exact RcAt.tuple_str y u hl (room_here hu)
    | @tup l' o' vs' n' ys k1 k2 k3 k4 => exact rcc_tuple hl ⟨_, k1, k2, _, k3⟩ h1 h3 h4 k1 k3 k4 hu (it0 _ _ _ _ (by simp) h4 k4)
    | @lst l' o' vs' n' ys k1 k2 k3 k4 => exact RcAt.tuple_list hl ⟨_, k1, k2, _, k3⟩ (room_here hu)
  | @lst l o vs n xs h1 h2 h3 h4 =>
    have hl : s.heap.IsList l vs := ⟨_, h1, h2, _, h3⟩
    cases rb with
    | none => exact RcAt.list_none hl (room_here hu)
    | @bool d _ e' => exact RcAt.list_bool d hl (room_here hu)
    | int y u => exact RcAt.list_int y u hl (room_here hu)
    | text y u => exact RcAt.list_str y u hl (room_here hu)
    | @tup l' o' vs' n' ys k1 k2 k3 k4 => exact RcAt.list_tuple hl ⟨_, k1, k2, _, k3⟩ (room_here hu)
    | @lst l' o' vs' n' ys k1 k2 k3 k4 => exact rcc_list hl ⟨_, k1, k2, _, k3⟩ h1 h3 h4 k1 k3 k4 hu (it0 _ _ _ _ (by simp) h4 k4)
theorem rcNeAt_P {x y : Pd} {A : Around} {s : Shared} {a b : Value} (ra : PIs s.heap x a) (rb : PIs s.heap y b) (hu : A.units + min (dpP x) (dpP y) < cLine)
    (it0 : ∀ xs ys vs vs', (x = .tup xs ∨ x = .lst xs) → PAll s.heap xs vs.toList → PAll s.heap ys vs'.toList → A.units + 1 + min (dpPs xs) (dpPs ys) < cLine → ItemsEq A s xs ys vs vs') : RcNeAt A s a b (!eqP x y) := by
  cases ra with
  | none =>
    cases rb with
    | none => exact (RcNeAt.none_none).cast (rfl)
    | @bool d _ e' => exact (RcNeAt.none_bool d).cast (rfl)
    | int y u => exact (RcNeAt.none_int y u).cast (rfl)
    | text y u => exact (RcNeAt.none_str y u).cast (rfl)
    | @tup l' o' vs' n' ys k1 k2 k3 k4 => exact RcNeAt.none_tuple ⟨_, k1, k2, _, k3⟩ (room_here hu)
    | @lst l' o' vs' n' ys k1 k2 k3 k4 => exact RcNeAt.none_list ⟨_, k1, k2, _, k3⟩ (room_here hu)
  | @bool c _ e =>
    cases rb with
    | none => exact (RcNeAt.bool_none c).cast (rfl)
    | @bool d _ e' => exact (RcNeAt.bool_bool c d).cast (by subst e e'; cases c <;> cases d <;> rfl)
    | int y u => exact (RcNeAt.bool_int c y u).cast (by subst e; rfl)
    | text y u => exact (RcNeAt.bool_str c y u).cast (rfl)
    | @tup l' o' vs' n' ys k1 k2 k3 k4 => exact RcNeAt.bool_tuple c ⟨_, k1, k2, _, k3⟩ (room_here hu)
    | @lst l' o' vs' n' ys k1 k2 k3 k4 => exact RcNeAt.bool_list c ⟨_, k1, k2, _, k3⟩ (room_here hu)
  | int i t =>
    cases rb with
    | none => exact (RcNeAt.int_none i t).cast (rfl)
    | @bool d _ e' => exact (RcNeAt.int_bool i t d).cast (by subst e'; rfl)
    | int y u => exact (RcNeAt.int_int i t y u).cast (rfl)
    | text y u => exact (RcNeAt.int_str i t y u).cast (rfl)
    | @tup l' o' vs' n' ys k1 k2 k3 k4 => exact RcNeAt.int_tuple i t ⟨_, k1, k2, _, k3⟩ (room_here hu)
    | @lst l' o' vs' n' ys k1 k2 k3 k4 => exact RcNeAt.int_list i t ⟨_, k1, k2, _, k3⟩ (room_here hu)
  | text x t =>
    cases rb with
    | none => exact (RcNeAt.str_none x t).cast (rfl)
    | @bool d _ e' => exact (RcNeAt.str_bool x t d).cast (rfl)
    | int y u => exact (RcNeAt.str_int x t y u).cast (rfl)
    | text y u => exact (RcNeAt.str_str x t y u).cast (rfl)
    | @tup l' o' vs' n' ys k1 k2 k3 k4 => exact RcNeAt.str_tuple x t ⟨_, k1, k2, _, k3⟩ (room_here hu)
    | @lst l' o' vs' n' ys k1 k2 k3 k4 => exact RcNeAt.str_list x t ⟨_, k1, k2, _, k3⟩ (room_here hu)
  | @tup l o vs n xs h1 h2 h3 h4 =>
    have hl : s.heap.IsTuple l vs := ⟨_, h1, h2, _, h3⟩
    cases rb with
    | none => exact RcNeAt.tuple_none hl (room_here hu)
    | @bool d _ e' => exact RcNeAt.tuple_bool d hl (room_here hu)
    | int y u => exact RcNeAt.tuple_int y u hl (room_here hu)
    | text y u => exact RcNeAt.tuple_str y u hl (room_here hu)
    | @tup l' o' vs' n' ys k1 k2 k3 k4 => exact rnn_tuple hl ⟨_, k1, k2, _, k3⟩ h1 h3 h4 k1 k3 k4 hu (it0 _ _ _ _ (by simp) h4 k4)
    | @lst l' o' vs' n' ys k1 k2 k3 k4 => exact RcNeAt.tuple_list hl ⟨_, k1, k2, _, k3⟩ (room_here hu)
  | @lst l o vs n xs h1 h2 h3 h4 =>
    have hl : s.heap.IsList l vs := ⟨_, h1, h2, _, h3⟩
    cases rb with
    | none => exact RcNeAt.list_none hl (room_here hu)
    | @bool d _ e' => exact RcNeAt.list_bool d hl (room_here hu)
    | int y u => exact RcNeAt.list_int y u hl (room_here hu)
    | text y u => exact RcNeAt.list_str y u hl (room_here hu)
    | @tup l' o' vs' n' ys k1 k2 k3 k4 => exact RcNeAt.list_tuple hl ⟨_, k1, k2, _, k3⟩ (room_here hu)
    | @lst l' o' vs' n' ys k1 k2 k3 k4 => exact rnn_list hl ⟨_, k1, k2, _, k3⟩ h1 h3 h4 k1 k3 k4 hu (it0 _ _ _ _ (by simp) h4 k4)
theorem eqAt_P1 {x y : Pd} {A : Around} {s : Shared} {a b : Value} (ra : PIs s.heap x a) (rb : PIs s.heap y b) (hu : A.units + min (dpP x) (dpP y) < cLine)
    (it0 : ∀ xs ys vs vs', (x = .tup xs ∨ x = .lst xs) → PAll s.heap xs vs.toList → PAll s.heap ys vs'.toList → A.units + 1 + min (dpPs xs) (dpPs ys) < cLine → ItemsEq A s xs ys vs vs') : EqAt A s a b (eqP x y) := by
  cases ra with
  | none =>
    cases rb with
    | none => exact (EqAt.same _).cast (rfl)
    | @bool d _ e' => exact (EqAt.none_bool d).cast (rfl)
    | int y u => exact (EqAt.none_int y u).cast (rfl)
    | text y u => exact (EqAt.none_str y u).cast (rfl)
    | @tup l' o' vs' n' ys k1 k2 k3 k4 => exact EqAt.none_tuple ⟨_, k1, k2, _, k3⟩ (room_here hu)
    | @lst l' o' vs' n' ys k1 k2 k3 k4 => exact EqAt.none_list ⟨_, k1, k2, _, k3⟩ (room_here hu)
  | @bool c _ e =>
    cases rb with
    | none => exact (EqAt.bool_none c).cast (rfl)
    | @bool d _ e' => exact (EqAt.bool_bool c d).cast (by subst e e'; cases c <;> cases d <;> rfl)
    | int y u => exact (EqAt.bool_int c y u).cast (by subst e; rfl)
    | text y u => exact (EqAt.bool_str c y u).cast (rfl)
    | @tup l' o' vs' n' ys k1 k2 k3 k4 => exact EqAt.bool_tuple c ⟨_, k1, k2, _, k3⟩ (room_here hu)
    | @lst l' o' vs' n' ys k1 k2 k3 k4 => exact EqAt.bool_list c ⟨_, k1, k2, _, k3⟩ (room_here hu)
  | int i t =>
    cases rb with
    | none => exact (EqAt.int_none i t).cast (rfl)
    | @bool d _ e' => exact (EqAt.int_bool i t d).cast (by subst e'; rfl)
    | int y u => exact (EqAt.int_int i t y u).cast (rfl)
    | text y u => exact (EqAt.int_str i t y u).cast (rfl)
    | @tup l' o' vs' n' ys k1 k2 k3 k4 => exact EqAt.int_tuple i t ⟨_, k1, k2, _, k3⟩ (room_here hu)
    | @lst l' o' vs' n' ys k1 k2 k3 k4 => exact EqAt.int_list i t ⟨_, k1, k2, _, k3⟩ (room_here hu)
  | text x t =>
    cases rb with
    | none => exact (EqAt.str_none x t).cast (rfl)
    | @bool d _ e' => exact (EqAt.str_bool x t d).cast (rfl)
    | int y u => exact (EqAt.str_int x t y u).cast (rfl)
    | text y u => exact (EqAt.str_str x t y u).cast (rfl)
    | @tup l' o' vs' n' ys k1 k2 k3 k4 => exact EqAt.str_tuple x t ⟨_, k1, k2, _, k3⟩ (room_here hu)
    | @lst l' o' vs' n' ys k1 k2 k3 k4 => exact EqAt.str_list x t ⟨_, k1, k2, _, k3⟩ (room_here hu)
  | @tup l o vs n xs h1 h2 h3 h4 =>
    have hl : s.heap.IsTuple l vs := ⟨_, h1, h2, _, h3⟩
    cases rb with
    | none => exact EqAt.tuple_none hl (room_here hu)
    | @bool d _ e' => exact EqAt.tuple_bool d hl (room_here hu)
    | int y u => exact EqAt.tuple_int y u hl (room_here hu)
    | text y u => exact EqAt.tuple_str y u hl (room_here hu)
    | @tup l' o' vs' n' ys k1 k2 k3 k4 => exact eqq_tuple hl ⟨_, k1, k2, _, k3⟩ h1 h3 h4 k1 k3 k4 hu (it0 _ _ _ _ (by simp) h4 k4)
    | @lst l' o' vs' n' ys k1 k2 k3 k4 => exact EqAt.tuple_list hl ⟨_, k1, k2, _, k3⟩ (room_here hu)
  | @lst l o vs n xs h1 h2 h3 h4 =>
    have hl : s.heap.IsList l vs := ⟨_, h1, h2, _, h3⟩
    cases rb with
    | none => exact EqAt.list_none hl (room_here hu)
    | @bool d _ e' => exact EqAt.list_bool d hl (room_here hu)
    | int y u => exact EqAt.list_int y u hl (room_here hu)
    | text y u => exact EqAt.list_str y u hl (room_here hu)
    | @tup l' o' vs' n' ys k1 k2 k3 k4 => exact EqAt.list_tuple hl ⟨_, k1, k2, _, k3⟩ (room_here hu)
    | @lst l' o' vs' n' ys k1 k2 k3 k4 => exact eqq_list hl ⟨_, k1, k2, _, k3⟩ h1 h3 h4 k1 k3 k4 hu (it0 _ _ _ _ (by simp) h4 k4)
mutual
theorem eqAt_P : ∀ (x y : Pd) (A : Around) (s : Shared) (a b : Value), PIs s.heap x a → PIs s.heap y b → A.units + min (dpP x) (dpP y) < cLine → EqAt A s a b (eqP x y)
  | .none, y, A, s, a, b, ra, rb, hu => eqAt_P1 ra rb hu fun xs ys vs vs' e h k r => by rcases e with e | e <;> cases e
  | .num _, y, A, s, a, b, ra, rb, hu => eqAt_P1 ra rb hu fun xs ys vs vs' e h k r => by rcases e with e | e <;> cases e
  | .text _, y, A, s, a, b, ra, rb, hu => eqAt_P1 ra rb hu fun xs ys vs vs' e h k r => by rcases e with e | e <;> cases e
  | .tup us, y, A, s, a, b, ra, rb, hu => eqAt_P1 ra rb hu fun xs ys vs vs' e h k r => by
    have e' : us = xs := by rcases e with e | e <;> cases e <;> rfl
    rw [← e'] at h r ⊢
    intro j j1 j2
    have := eqAt_Ps us ys A.in1 s vs.toList vs'.toList h k r j (by simpa using j1) (by simpa using j2)
    simpa using this
  | .lst us, y, A, s, a, b, ra, rb, hu => eqAt_P1 ra rb hu fun xs ys vs vs' e h k r => by
    have e' : us = xs := by rcases e with e | e <;> cases e <;> rfl
    rw [← e'] at h r ⊢
    intro j j1 j2
    have := eqAt_Ps us ys A.in1 s vs.toList vs'.toList h k r j (by simpa using j1) (by simpa using j2)
    simpa using this
theorem eqAt_Ps : ∀ (xs ys : List Pd) (A : Around) (s : Shared) (vs ws : List Value), PAll s.heap xs vs → PAll s.heap ys ws →
    A.units + min (dpPs xs) (dpPs ys) < cLine → ∀ j (h1 : j < vs.length) (h2 : j < ws.length), EqAt A s vs[j] ws[j] (pEqAt xs ys j)
  | [], _, _, _, _, _, ra, _, _, j, h1, _ => by cases ra; exact absurd h1 (Nat.not_lt_zero _)
  | _ :: _, [], _, _, _, _, _, rb, _, j, _, h2 => by cases rb; exact absurd h2 (Nat.not_lt_zero _)
  | x :: xs, y :: ys, A, s, _, _, ra, rb, hu, j, h1, h2 => by
    cases ra with
    | cons r rs =>
      cases rb with
      | cons r' rs' =>
        cases j with
        | zero => exact eqAt_P x y A s _ _ r r' (room_head hu)
        | succ j => exact eqAt_Ps xs ys A s _ _ rs rs' (room_tail hu) j (Nat.lt_of_succ_lt_succ h1) (Nat.lt_of_succ_lt_succ h2)
end
theorem itemsEq {A : Around} {s : Shared} {xs ys : List Pd} {vs vs' : Array Value} (h : PAll s.heap xs vs.toList) (k : PAll s.heap ys vs'.toList) (r : A.units + 1 + min (dpPs xs) (dpPs ys) < cLine) : ItemsEq A s xs ys vs vs' := by
  intro j j1 j2
  have := eqAt_Ps xs ys A.in1 s vs.toList vs'.toList h k r j (by simpa using j1) (by simpa using j2)
  simpa using this

/-! ### what a value is, up to == -/
mutual
def toP : D → Pd
  | .non => .none
  | .bl b => .num (if b then 1 else 0)
  | .int i => .num i
  | .str x => .text x
  | .tup ds => .tup (toPs ds)
  | .scr _ => .none
  | .ty _ => .none
  | .ref _ => .none
def toPs : List D → List Pd
  | [] => []
  | d :: ds => toP d :: toPs ds
end
mutual
def res (G : DG) : D → Option Pd
  | .non => some .none
  | .bl b => some (.num (if b then 1 else 0))
  | .int i => some (.num i)
  | .str x => some (.text x)
  | .tup ds => (ress G ds).map .tup
  | .scr _ => none
  | .ty _ => none
  | .ref a => match G a with
    | some (.lst ds) => if flats ds then some (.lst (toPs ds)) else none
    | _ => none
def ress (G : DG) : List D → Option (List Pd)
  | [] => some []
  | d :: ds => match res G d with
    | some p => (ress G ds).map (p :: ·)
    | none => none
end
mutual
theorem res_flat {G : DG} : ∀ {d : D}, flat d = true → res G d = some (toP d)
  | .non, _ => rfl
  | .bl _, _ => rfl
  | .int _, _ => rfl
  | .str _, _ => rfl
  | .tup ds, h => by rw [res, ress_flat (by simpa [flat] using h)]; rfl
  | .scr _, h => by cases h
  | .ty _, h => by cases h
  | .ref _, h => by cases h
theorem ress_flat {G : DG} : ∀ {ds : List D}, flats ds = true → ress G ds = some (toPs ds)
  | [], _ => rfl
  | d :: ds, h => by
    rw [flats, Bool.and_eq_true] at h
    rw [ress, res_flat h.1, ress_flat h.2]
    rfl
end
section
variable {X : Cx} {pins : List (Addr × Obj)} {σ : L2.St} {H : Hp} {s : Shared}
mutual
theorem Den.pis (I : Inv X pins σ H s) : ∀ (d : D) {v : V} {u : Value}, Den X.K H d v → RelV v u → flat d = true → PIs s.heap (toP d) u
  | .non, _, _, h, r, _ => by cases h; cases r; exact .none
  | .bl b, _, _, h, r, _ => by cases h; cases r; exact .bool rfl
  | .int i, _, _, h, r, _ => by cases h; obtain ⟨t, rfl⟩ := r; exact .int i t
  | .str x, _, _, h, r, _ => by cases h; obtain ⟨t, rfl⟩ := r; exact .text x t
  | .tup ds, _, _, h, r, f => by
    cases h with
    | tup hq hl =>
      cases r
      obtain ⟨its, rv, ⟨o, ho, hc, n, hd⟩, _⟩ := I.tuple hq
      exact .tup ho hc hd (by simpa using DenL.pis I ds hl rv (by simpa [flat] using f))
  | .scr _, _, _, _, _, f => by cases f
  | .ty _, _, _, _, _, f => by cases f
  | .ref _, _, _, _, _, f => by cases f
theorem DenL.pis (I : Inv X pins σ H s) : ∀ (ds : List D) {vs : List V} {us : List Value}, DenL X.K H ds vs → Vals vs us → flats ds = true → PAll s.heap (toPs ds) us
  | [], _, _, h, r, _ => by cases h; cases r; exact .nil
  | d :: ds, _, _, h, r, f => by
    cases h with
    | cons h1 h2 =>
      cases r with
      | cons r1 r2 =>
        rw [flats, Bool.and_eq_true] at f
        exact .cons (Den.pis I d h1 r1 f.1) (DenL.pis I ds h2 r2 f.2)
end
mutual
theorem Den.res (I : Inv X pins σ H s) {G : DG} (A : AbsG X.K X.w H G) : ∀ (d : D) {p : Pd} {v : V} {u : Value}, Den X.K H d v → RelV v u → DD.res G d = some p → PIs s.heap p u
  | .non, _, _, _, h, r, e => by cases e; exact Den.pis I .non h r rfl
  | .bl b, _, _, _, h, r, e => by cases e; exact Den.pis I (.bl b) h r rfl
  | .int i, _, _, _, h, r, e => by cases e; exact Den.pis I (.int i) h r rfl
  | .str x, _, _, _, h, r, e => by cases e; exact Den.pis I (.str x) h r rfl
  | .tup ds, _, _, _, h, r, e => by
    cases h with
    | tup hq hl =>
      cases r
      rw [DD.res, Option.map_eq_some_iff] at e
      obtain ⟨ps, e, rfl⟩ := e
      obtain ⟨its, rv, ⟨o, ho, hc, n, hd⟩, _⟩ := I.tuple hq
      exact .tup ho hc hd (by simpa using DenL.ress I A ds hl rv e)
  | .scr _, _, _, _, _, _, e => by cases e
  | .ty _, _, _, _, _, _, e => by cases e
  | .ref a, _, _, _, h, r, e => by
    cases h
    cases r
    rw [DD.res] at e
    split at e
    · rename_i ds eg
      split at e
      · rename_i f
        cases e
        obtain ⟨us, hu, hl⟩ := A a _ eg
        obtain ⟨its, rv, ⟨o, n, ho, hc, _, hd⟩, _⟩ := I.list (.of hu)
        exact .lst ho hc hd (by simpa using DenL.pis I ds hl rv f)
      · cases e
    · cases e
theorem DenL.ress (I : Inv X pins σ H s) {G : DG} (A : AbsG X.K X.w H G) : ∀ (ds : List D) {ps : List Pd} {vs : List V} {us : List Value}, DenL X.K H ds vs → Vals vs us → DD.ress G ds = some ps → PAll s.heap ps us
  | [], _, _, _, h, r, e => by cases h; cases r; cases e; exact .nil
  | d :: ds, _, _, _, h, r, e => by
    cases h with
    | cons h1 h2 =>
      cases r with
      | cons r1 r2 =>
        rw [DD.ress] at e
        split at e
        · rename_i p ep
          rw [Option.map_eq_some_iff] at e
          obtain ⟨ps, e, rfl⟩ := e
          exact .cons (Den.res I A d h1 r1 ep) (DenL.ress I A ds h2 r2 e)
        · cases e
end
end

/-! ### == and != -/
def rEq : DR2 := fun d e G Q => match res G d, res G e with
  | some p, some q => (dpP p ≤ 60 ∨ dpP q ≤ 60) ∧ Q (.bl (eqP p q)) G
  | _, _ => False
def rNe : DR2 := fun d e G Q => match res G d, res G e with
  | some p, some q => (dpP p ≤ 60 ∨ dpP q ≤ 60) ∧ Q (.bl (!eqP p q)) G
  | _, _ => False
theorem op_eqD {X : Cx} (hu : X.A.units + 64 < cLine) : OpD X (compareOp .Eq) rEq := by
  intro pins s σ H x y v u Q I rx ry ⟨d, e, G, R, A, r1, r2, q, k⟩
  unfold rEq at q
  split at q
  · rename_i p p' e1 e2
    exact rcAt_P (Den.res I A d r1 rx e1) (Den.res I A e r2 ry e2) (by omega) (fun _ _ _ _ _ h h' r => itemsEq h h' r) _ _ _ _ ⟨.bl _, H, I, rfl, k _ G _ H q.2 (.refl A) (.bl _)⟩
  · exact q.elim
theorem op_neD {X : Cx} (hu : X.A.units + 64 < cLine) : OpD X (compareOp .NotEq) rNe := by
  intro pins s σ H x y v u Q I rx ry ⟨d, e, G, R, A, r1, r2, q, k⟩
  unfold rNe at q
  split at q
  · rename_i p p' e1 e2
    exact rcNeAt_P (Den.res I A d r1 rx e1) (Den.res I A e r2 ry e2) (by omega) (fun _ _ _ _ _ h h' r => itemsEq h h' r) _ _ _ _ ⟨.bl _, H, I, rfl, k _ G _ H q.2 (.refl A) (.bl _)⟩
  · exact q.elim
end DD

/-! D-layer 7: operations -/
namespace DD
open PySem PySem.Spec PyProof.Rows L2 SeqAt
theorem SqL.dlen {X : Cx} {pins : List (Addr × Obj)} {σ : L2.St} {H : Hp} {s : Shared} {a : Addr} {xs : List V} (I : Inv X pins σ H s) (h : SqL X.K H a xs) : xs.length ≤ sizeLine := by
  obtain ⟨_, _, _, z⟩ := I.list h
  exact z
section
variable {X : Cx}
/-- two ways by the operands -/
theorem opD_or {f : Value → Value → Sem Value} {r r' : DR2} (h : OpD X f r) (h' : OpD X f r') : OpD X f (fun x y G Q => r x y G Q ∨ r' x y G Q) := by
  intro pins s σ H x y v u Q I rx ry ⟨d, e, G, R, A, r1, r2, q, k⟩
  rcases q with q | q
  · exact h pins s σ H x y v u Q I rx ry ⟨d, e, G, R, A, r1, r2, q, k⟩
  · exact h' pins s σ H x y v u Q I rx ry ⟨d, e, G, R, A, r1, r2, q, k⟩
theorem opD_imp {f : Value → Value → Sem Value} {r r' : DR2} (h : OpD X f r) (i : ∀ x y G Q, r' x y G Q → r x y G Q) : OpD X f r' := by
  intro pins s σ H x y v u Q I rx ry ⟨d, e, G, R, A, r1, r2, q, k⟩
  exact h pins s σ H x y v u Q I rx ry ⟨d, e, G, R, A, r1, r2, i _ _ _ _ q, k⟩
theorem callD_or {f : Value} {r r' : DRC} (h : CallD X f r) (h' : CallD X f r') : CallD X f (fun x G Q => r x G Q ∨ r' x G Q) := by
  intro pins s σ H xs us Q I rx h
  obtain ⟨d, G, R, A, r1, q, k⟩ := h
  rcases q with q | q
  · exact h pins s σ H xs us Q I rx ⟨d, G, R, A, r1, q, k⟩
  · exact h' pins s σ H xs us Q I rx ⟨d, G, R, A, r1, q, k⟩
theorem callD_imp {f : Value} {r r' : DRC} (h : CallD X f r) (i : ∀ x G Q, r' x G Q → r x G Q) : CallD X f r' := by
  intro pins s σ H xs us Q I rx h
  obtain ⟨d, G, R, A, r1, q, k⟩ := h
  exact h pins s σ H xs us Q I rx ⟨d, G, R, A, r1, i _ _ _ q, k⟩
theorem ixD_or {r r' : DR2} (h : IxD X r) (h' : IxD X r') : IxD X (fun x y G Q => r x y G Q ∨ r' x y G Q) := by
  intro v0 s0 pins s σ H x y v u Q I rx ry h1 hs
  obtain ⟨d, e, G, R, A, r1, r2, q, k⟩ := h1
  rcases q with q | q
  · exact h v0 s0 pins s σ H x y v u Q I rx ry ⟨d, e, G, R, A, r1, r2, q, k⟩ hs
  · exact h' v0 s0 pins s σ H x y v u Q I rx ry ⟨d, e, G, R, A, r1, r2, q, k⟩ hs
theorem ixD_imp {r r' : DR2} (h : IxD X r) (i : ∀ x y G Q, r' x y G Q → r x y G Q) : IxD X r' := by
  intro v0 s0 pins s σ H x y v u Q I rx ry h1 hs
  obtain ⟨d, e, G, R, A, r1, r2, q, k⟩ := h1
  exact h v0 s0 pins s σ H x y v u Q I rx ry ⟨d, e, G, R, A, r1, r2, i _ _ _ _ q, k⟩ hs

/-! ### +, -, *, //, % -/
def b2 (b : Bool) : Int := if b = true then 1 else 0
def rAdd : DR2 := fun d e G Q => match d, e with
  | .int i, .int j => Q (.int (i + j)) G
  | .bl b, .int j => Q (.int (b2 b + j)) G
  | .int i, .bl b => Q (.int (i + b2 b)) G
  | .str x, .str y => x.length + y.length ≤ 16777216 ∧ Q (.str (x ++ y)) G
  | .tup xs, .tup ys => xs.length + ys.length ≤ 16777216 ∧ Q (.tup (xs ++ ys)) G
  | .ref a, .ref b => (match G a, G b with
    | some (.lst xs), some (.lst ys) => xs.length + ys.length ≤ 16777216 ∧ ∀ p, G p = none → Q (.ref p) (gup G p (.lst (xs ++ ys)))
    | _, _ => False)
  | _, _ => False
theorem op_addD : OpD X (binaryOp .Add) rAdd := by
  intro pins s σ H x y v u Q I rx ry ⟨d, e, G, R, A, r1, r2, q, k⟩
  unfold rAdd at q
  split at q
  · rename_i i j; cases r1; cases r2
    exact op_add pins s σ H _ _ v u Q I rx ry ⟨i, j, rfl, rfl, k _ G _ H q (.refl A) (.int _)⟩
  · rename_i b j; cases r1; cases r2
    cases (show v = Value.bool b from rx)
    obtain ⟨t, rfl⟩ := ry
    exact PySem.IntBool.add_bool_int ⟨.int _, H, I.tok _, ⟨_, rfl⟩, k _ G _ H q (.refl A) (.int _)⟩
  · rename_i i b; cases r1; cases r2
    cases (show u = Value.bool b from ry)
    obtain ⟨t, rfl⟩ := rx
    exact add_int_bool ⟨.int _, H, I.tok _, ⟨_, rfl⟩, k _ G _ H q (.refl A) (.int _)⟩
  · rename_i i j; cases r1; cases r2
    have hz : sizeLine = 16777216 := sizeLine_eq
    obtain ⟨hl, q⟩ := q
    exact op_add_str pins s σ H _ _ v u Q I rx ry ⟨i, j, rfl, rfl, by omega, k _ G _ H q (.refl A) (.str _ (by
      have : (i ++ j).length = i.length + j.length := by
        show (i.cps ++ j.cps).size = i.cps.size + j.cps.size
        rw [Array.size_append]
      omega))⟩
  · rename_i xs ys
    have hz : sizeLine = 16777216 := sizeLine_eq
    obtain ⟨hl, q⟩ := q
    cases r1 with
    | tup h1 l1 =>
    rename_i a vs
    cases r2 with
    | tup h2 l2 =>
    rename_i b us
    refine op_catA pins s σ H _ _ v u Q I rx ry ⟨a, b, vs, us, rfl, rfl, h1, h2, ?_, ?_, ?_, ?_⟩
    · rw [← l1.length, ← l2.length]; omega
    · rintro rfl
      cases l1
      exact k _ G _ H q (.refl A) (.tup h2 l2)
    · rintro _ rfl
      cases l2
      rw [List.append_nil] at q
      exact k _ G _ H q (.refl A) (.tup h1 l1)
    · intro _ _ p hp
      exact k _ G _ _ q (Step.hidden A hp) (.tup (.of upd_same) ((l1.append l2).mono (.alloc hp)))
  · rename_i a b
    cases r1; cases r2
    have hz : sizeLine = 16777216 := sizeLine_eq
    split at q
    · rename_i xs ys e1 e2
      obtain ⟨hl, q⟩ := q
      obtain ⟨vs, h1, l1⟩ := A a _ e1
      obtain ⟨us, h2, l2⟩ := A b _ e2
      refine op_cat pins s σ H _ _ v u Q I rx ry ⟨a, b, vs, us, rfl, rfl, h1, h2, by rw [← l1.length, ← l2.length]; omega, fun p hp => ?_⟩
      exact k _ _ _ _ (q p (A.none hp)) (Step.alloc A hp ⟨_, upd_same, (l1.append l2).mono (.alloc hp)⟩) (.ref p)
    · exact q.elim
  · exact q.elim
def rSub : DR2 := fun d e G Q => match d, e with
  | .int i, .int j => Q (.int (i - j)) G
  | .bl b, .int j => Q (.int (b2 b - j)) G
  | .int i, .bl b => Q (.int (i - b2 b)) G
  | _, _ => False
theorem op_subD : OpD X (binaryOp .Sub) rSub := by
  intro pins s σ H x y v u Q I rx ry ⟨d, e, G, R, A, r1, r2, q, k⟩
  unfold rSub at q
  split at q
  · rename_i i j; cases r1; cases r2
    exact op_sub pins s σ H _ _ v u Q I rx ry ⟨i, j, rfl, rfl, k _ G _ H q (.refl A) (.int _)⟩
  · rename_i b j; cases r1; cases r2
    cases (show v = Value.bool b from rx)
    obtain ⟨t, rfl⟩ := ry
    exact PySem.IntBool.sub_bool_int ⟨.int _, H, I.tok _, ⟨_, rfl⟩, k _ G _ H q (.refl A) (.int _)⟩
  · rename_i i b; cases r1; cases r2
    cases (show u = Value.bool b from ry)
    obtain ⟨t, rfl⟩ := rx
    exact PySem.IntBool.sub_int_bool ⟨.int _, H, I.tok _, ⟨_, rfl⟩, k _ G _ H q (.refl A) (.int _)⟩
  · exact q.elim
/-- a text k times -/
def repS (x : Str) (k : Nat) : Str := ⟨(List.replicate k x.cps.toList).flatten.toArray⟩
theorem rep_cps (x : Array Nat) : ∀ (k : Nat) (a : List Nat), (List.replicate k x).foldl (· ++ ·) a.toArray = (a ++ (List.replicate k x.toList).flatten).toArray
  | 0, a => by simp
  | k + 1, a => by
    rw [List.replicate_succ, List.foldl_cons, show a.toArray ++ x = (a ++ x.toList).toArray by simp, rep_cps x k (a ++ x.toList), List.replicate_succ, List.flatten_cons, List.append_assoc]
def rMul : DR2 := fun d e G Q => match d, e with
  | .int i, .int j => CMul i j ∧ Q (.int (i * j)) G
  | .bl b, .int j => (-(2 ^ 64) < j ∧ j < 2 ^ 64) ∧ Q (.int (b2 b * j)) G
  | .str x, .int j => (j = 2 ∧ x.length ≤ 1000) ∧ Q (.str (repS x 2)) G
  | .tup xs, .int j => (2 ≤ j ∧ j ≤ 1000 ∧ xs ≠ [] ∧ xs.length ≤ 1000) ∧ Q (.tup (List.replicate j.toNat xs).flatten) G
  | .ref a, .int j => (match G a with
    | some (.lst xs) => (0 ≤ j ∧ j ≤ 1000 ∧ xs.length ≤ 1000) ∧ ∀ p, G p = none → Q (.ref p) (gup G p (.lst (List.replicate j.toNat xs).flatten))
    | _ => False)
  | _, _ => False
theorem repS_len (x : Str) (k : Nat) : (repS x k).length = k * x.length := by
  show (List.replicate k x.cps.toList).flatten.toArray.size = k * x.cps.size
  rw [List.size_toArray, List.length_flatten, List.map_replicate, List.sum_replicate_nat, Array.length_toList]
theorem op_mulD : OpD X (binaryOp .Mult) rMul := by
  intro pins s σ H x y v u Q I rx ry ⟨d, e, G, R, A, r1, r2, q, k⟩
  unfold rMul at q
  have hz : sizeLine = 16777216 := sizeLine_eq
  split at q
  · rename_i i j; cases r1; cases r2
    exact op_mul pins s σ H _ _ v u Q I rx ry ⟨i, j, rfl, rfl, q.1, k _ G _ H q.2 (.refl A) (.int _)⟩
  · rename_i b j; cases r1; cases r2
    cases (show v = Value.bool b from rx)
    obtain ⟨t, rfl⟩ := ry
    exact PySem.IntBool.mul_bool_int ⟨.int _, H, I.tok _, ⟨_, rfl⟩, k _ G _ H q.2 (.refl A) (.int _)⟩
  · rename_i x j; cases r1; cases r2
    obtain ⟨t, rfl⟩ := rx
    obtain ⟨t', rfl⟩ := ry
    obtain ⟨⟨hj, hx⟩, q⟩ := q
    subst hj
    refine PySem.P.mul_str (by decide) (fun _ _ => ?_) (fun _ _ => ?_) ?_
    · have : ((2:Int) ^ 63 - 1) / 2 = 4611686018427387903 := by decide
      omega
    · have : ¬ x.length * Int.toNat 2 > 2 ^ 24 := by
        show ¬ x.length * 2 > 2 ^ 24
        omega
      simpa [Builtin.Str.tooLong, sizeLine] using this
    · have hx' : x.length ≤ sizeLine := by omega
      have e0 : ((2 : Int) < 1) = False := by simp
      rw [if_neg (by decide)]
      have er : (⟨(List.replicate (Int.toNat 2) x.cps).foldl (· ++ ·) #[]⟩ : Str) = repS x 2 := by
        unfold repS
        rw [show (Int.toNat 2) = 2 from rfl, show (#[] : Array Nat) = ([] : List Nat).toArray from rfl, rep_cps, List.nil_append]
      have el := repS_len x 2
      have q' := k _ G _ H q (.refl A) (.str _ (by omega))
      split
      · rename_i h0
        have h0 : x.length = 0 := by simpa using h0
        have ex : repS x 2 = x := by
          have hn : x.cps = #[] := Array.eq_empty_of_size_eq_zero h0
          unfold repS
          cases x
          simp only at hn
          subst hn
          rfl
        rw [ex] at q'
        exact ⟨.str x, H, I, ⟨_, rfl⟩, q'⟩
      · rw [er]
        exact ⟨by omega, .str _, H, I.tok _, ⟨_, rfl⟩, q'⟩
  · rename_i xs j; cases r2
    obtain ⟨⟨h1, h2, h3, h4⟩, q⟩ := q
    cases r1 with
    | tup hq hl =>
    rename_i a vs
    refine op_repT pins s σ H _ _ v u Q I rx ry ⟨a, j, vs, rfl, rfl, hq, ?_, h1, h2, by rw [← hl.length]; exact h4, fun p hp => ?_⟩
    · rintro rfl
      cases hl
      exact h3 rfl
    · exact k _ G _ _ q (Step.hidden A hp) (.tup (.of upd_same) ((hl.rep _).mono (.alloc hp)))
  · rename_i a j; cases r1; cases r2
    split at q
    · rename_i xs e1
      obtain ⟨⟨h1, h2, h4⟩, q⟩ := q
      obtain ⟨vs, hv, hl⟩ := A a _ e1
      refine op_rep pins s σ H _ _ v u Q I rx ry ⟨a, j, vs, rfl, rfl, hv, by omega, by omega, ?_, fun p hp => ?_⟩
      · rw [← hl.length]
        have h5 : j.toNat ≤ 1000 := by omega
        have : xs.length * j.toNat ≤ 1000 * 1000 := Nat.mul_le_mul h4 h5
        omega
      · exact k _ _ _ _ (q p (A.none hp)) (Step.alloc A hp ⟨_, upd_same, (hl.rep _).mono (.alloc hp)⟩) (.ref p)
    · exact q.elim
  · exact q.elim
def rMod : DR2 := fun d e G Q => match d, e with
  | .int i, .int j => 0 < j ∧ Q (.int (i % j)) G
  | _, _ => False
theorem op_modD : OpD X (binaryOp .Mod) rMod := by
  intro pins s σ H x y v u Q I rx ry ⟨d, e, G, R, A, r1, r2, q, k⟩
  unfold rMod at q
  split at q
  · rename_i i j; cases r1; cases r2
    exact op_mod pins s σ H _ _ v u Q I rx ry ⟨i, j, rfl, rfl, q.1, k _ G _ H q.2 (.refl A) (.int _)⟩
  · exact q.elim
def rFdiv : DR2 := fun d e G Q => match d, e with
  | .int i, .int j => (0 < j ∧ j < 1073741824) ∧ Q (.int (i / j)) G
  | _, _ => False
theorem op_fdivD : OpD X (binaryOp .FloorDiv) rFdiv := by
  intro pins s σ H x y v u Q I rx ry ⟨d, e, G, R, A, r1, r2, q, k⟩
  unfold rFdiv at q
  split at q
  · rename_i i j; cases r1; cases r2
    exact op_fdiv pins s σ H _ _ v u Q I rx ry ⟨i, j, rfl, rfl, q.1, k _ G _ H q.2 (.refl A) (.int _)⟩
  · exact q.elim

/-! ### <, <=, >, >= -/
inductive Co | lt | le | gt | ge
def Co.op : Co → CmpOp
  | .lt => .Lt | .le => .LtE | .gt => .Gt | .ge => .GtE
def Co.int : Co → Int → Int → Bool
  | .lt, a, b => decide (a < b) | .le, a, b => decide (a ≤ b) | .gt, a, b => decide (b < a) | .ge, a, b => decide (b ≤ a)
def Co.str : Co → Str → Str → Bool
  | .lt, x, y => decide (x.cps.toList < y.cps.toList)
  | .le, x, y => !decide (y.cps.toList < x.cps.toList)
  | .gt, x, y => decide (y.cps.toList < x.cps.toList)
  | .ge, x, y => !decide (x.cps.toList < y.cps.toList)
def Co.len : Co → Nat → Nat → Bool
  | .lt, a, b => decide (a < b) | .le, a, b => decide (a ≤ b) | .gt, a, b => decide (a > b) | .ge, a, b => decide (a ≥ b)
def ordLs (f : D → D → Option Bool) (k : Co) : List D → List D → Option Bool
  | x :: xs, y :: ys => match f x y, ordLs f k xs ys with
    | some b, some r => some (if eqP (toP x) (toP y) = true then r else b)
    | _, _ => none
  | [], [] => some (k.len 0 0)
  | [], _ :: _ => some (k.len 0 1)
  | _ :: _, [] => some (k.len 1 0)
def ordN : Nat → Co → D → D → Option Bool
  | n, k, .int a, .int b => some (k.int a b)
  | n, k, .str a, .str b => some (k.str a b)
  | n + 1, k, .tup xs, .tup ys => ordLs (ordN n k) k xs ys
  | _, _, _, _ => none
def ordD : Co → D → D → Option Bool := ordN 4
theorem lex_shift {e r : Nat → Bool} {z : Bool} : ∀ (n i : Nat), Ob.lexAt (fun j => e (j + 1)) (fun j => r (j + 1)) z i n = Ob.lexAt e r z (i + 1) n
  | 0, i => rfl
  | n + 1, i => by
    rw [Ob.lexAt_succ, Ob.lexAt_succ, lex_shift n (i + 1)]
/-- the first pair that differs -/
theorem lex_ord {f : D → D → Option Bool} {k : Co} : ∀ {xs ys : List D} {b : Bool}, ordLs f k xs ys = some b →
    Ob.lexAt (pEqAt (toPs xs) (toPs ys)) (fun j => (f (xs.getD j .non) (ys.getD j .non)).getD false) (k.len xs.length ys.length) 0 (min xs.length ys.length) = b
  | [], [], b, h => by
    rw [ordLs] at h
    cases h
    rfl
  | [], y :: ys, b, h => by
    rw [ordLs] at h
    cases h
    show k.len 0 (ys.length + 1) = k.len 0 1
    cases k <;> simp [Co.len]
  | x :: xs, [], b, h => by
    rw [ordLs] at h
    cases h
    show k.len (xs.length + 1) 0 = k.len 1 0
    cases k <;> simp [Co.len]
  | x :: xs, y :: ys, b, h => by
    rw [ordLs] at h
    split at h
    · rename_i c r e1 e2
      cases h
      have ih := lex_ord e2
      have em : min (x :: xs).length (y :: ys).length = min xs.length ys.length + 1 := by simp only [List.length_cons]; omega
      have ek : k.len (x :: xs).length (y :: ys).length = k.len xs.length ys.length := by cases k <;> simp [Co.len]
      rw [em, ek, Ob.lexAt_succ, ← lex_shift]
      have e0 : pEqAt (toPs (x :: xs)) (toPs (y :: ys)) 0 = eqP (toP x) (toP y) := rfl
      rw [e0]
      have ef : (fun j => pEqAt (toPs (x :: xs)) (toPs (y :: ys)) (j + 1)) = pEqAt (toPs xs) (toPs ys) := by
        funext j
        simp [pEqAt, toPs]
      have eg : (fun j => (f ((x :: xs).getD (j + 1) .non) ((y :: ys).getD (j + 1) .non)).getD false) = fun j => (f (xs.getD j .non) (ys.getD j .non)).getD false := by
        funext j
        simp
      by_cases q : eqP (toP x) (toP y) = true
      · rw [if_pos q, if_pos q, ← ih]
        rw [ef, eg]
      · rw [if_neg q, if_neg q]
        show (f x y).getD false = c
        rw [e1]
        rfl
    · cases h
theorem ordLs_all {f : D → D → Option Bool} {k : Co} : ∀ {xs ys : List D} {b : Bool}, ordLs f k xs ys = some b → ∀ j, j < xs.length → j < ys.length → ∃ c, f (xs.getD j .non) (ys.getD j .non) = some c
  | [], _, _, _, j, h1, _ => by simp at h1
  | _ :: _, [], _, _, j, _, h2 => by simp at h2
  | x :: xs, y :: ys, b, h, j, h1, h2 => by
    rw [ordLs] at h
    split at h
    · rename_i c r e1 e2
      cases j with
      | zero => exact ⟨c, e1⟩
      | succ j =>
        obtain ⟨c', e'⟩ := ordLs_all e2 j (by simpa using h1) (by simpa using h2)
        exact ⟨c', by simpa using e'⟩
    · cases h
/-! the value v in the heap h is d (no lists, no objects within) -/
mutual
inductive DIs (h : Heap) : D → Value → Prop
  | non : DIs h .non .none
  | bl (b : Bool) : DIs h (.bl b) (.bool b)
  | int (i : Int) (t : Tok) : DIs h (.int i) (.int i t)
  | str (x : Str) (t : Tok) : DIs h (.str x) (.str x t)
  | tup {a : Addr} {o : Obj} {vs : Array Value} {n : Nat} {ds : List D} : h.get? a = some o → o.cls = .type "tuple" → o.data = .seq vs n → DIsL h ds vs.toList → DIs h (.tup ds) (.ref a)
inductive DIsL (h : Heap) : List D → List Value → Prop
  | nil : DIsL h [] []
  | cons {d : D} {v : Value} {ds : List D} {vs : List Value} : DIs h d v → DIsL h ds vs → DIsL h (d :: ds) (v :: vs)
end
mutual
theorem DIs.keeps {h h' : Heap} (k : ∀ b o, o.cls = .type "tuple" → h.get? b = some o → h'.get? b = some o) : ∀ {d : D} {v : Value}, DIs h d v → DIs h' d v
  | _, _, .non => .non
  | _, _, .bl b => .bl b
  | _, _, .int i t => .int i t
  | _, _, .str x t => .str x t
  | _, _, .tup h1 h2 h3 h4 => .tup (k _ _ h2 h1) h2 h3 (DIsL.keeps k h4)
theorem DIsL.keeps {h h' : Heap} (k : ∀ b o, o.cls = .type "tuple" → h.get? b = some o → h'.get? b = some o) : ∀ {ds : List D} {vs : List Value}, DIsL h ds vs → DIsL h' ds vs
  | _, _, .nil => .nil
  | _, _, .cons a t => .cons (DIs.keeps k a) (DIsL.keeps k t)
end
mutual
theorem DIs.pis {h : Heap} : ∀ {d : D} {v : Value}, DIs h d v → PIs h (toP d) v
  | _, _, .non => .none
  | _, _, .bl b => .bool rfl
  | _, _, .int i t => .int i t
  | _, _, .str x t => .text x t
  | _, _, .tup h1 h2 h3 h4 => .tup h1 h2 h3 (DIsL.pis h4)
theorem DIsL.pis {h : Heap} : ∀ {ds : List D} {vs : List Value}, DIsL h ds vs → PAll h (toPs ds) vs
  | _, _, .nil => .nil
  | _, _, .cons a t => .cons (DIs.pis a) (DIsL.pis t)
end
mutual
theorem Den.dis {pins : List (Addr × Obj)} {σ : L2.St} {H : Hp} {s : Shared} (I : Inv X pins σ H s) : ∀ (d : D) {v : V} {u : Value}, Den X.K H d v → RelV v u → flat d = true → DIs s.heap d u
  | .non, _, _, h, r, _ => by cases h; cases r; exact .non
  | .bl b, _, _, h, r, _ => by cases h; cases r; exact .bl b
  | .int i, _, _, h, r, _ => by cases h; obtain ⟨t, rfl⟩ := r; exact .int i t
  | .str x, _, _, h, r, _ => by cases h; obtain ⟨t, rfl⟩ := r; exact .str x t
  | .tup ds, _, _, h, r, f => by
    cases h with
    | tup hq hl =>
      cases r
      obtain ⟨its, rv, ⟨o, ho, hc, n, hd⟩, _⟩ := I.tuple hq
      exact .tup ho hc hd (by simpa using DenL.dis I ds hl rv (by simpa [flat] using f))
  | .scr _, _, _, _, _, f => by cases f
  | .ty _, _, _, _, _, f => by cases f
  | .ref _, _, _, _, _, f => by cases f
theorem DenL.dis {pins : List (Addr × Obj)} {σ : L2.St} {H : Hp} {s : Shared} (I : Inv X pins σ H s) : ∀ (ds : List D) {vs : List V} {us : List Value}, DenL X.K H ds vs → Vals vs us → flats ds = true → DIsL s.heap ds us
  | [], _, _, h, r, _ => by cases h; cases r; exact .nil
  | d :: ds, _, _, h, r, f => by
    cases h with
    | cons h1 h2 =>
      cases r with
      | cons r1 r2 =>
        rw [flats, Bool.and_eq_true] at f
        exact .cons (Den.dis I d h1 r1 f.1) (DenL.dis I ds h2 r2 f.2)
end
theorem DIsL.length {h : Heap} : ∀ {ds : List D} {vs : List Value}, DIsL h ds vs → vs.length = ds.length
  | _, _, .nil => rfl
  | _, _, .cons _ t => congrArg (· + 1) (DIsL.length t)
theorem DIsL.at {h : Heap} : ∀ {ds : List D} {vs : List Value} (j : Nat), DIsL h ds vs → ∀ (hj : j < vs.length), DIs h (ds.getD j .non) vs[j]
  | _, _, _, .nil, hj => absurd hj (Nat.not_lt_zero _)
  | _, _, 0, .cons a _, _ => a
  | _, _, j + 1, .cons _ t, hj => by
    rw [List.getD_cons_succ]
    exact DIsL.at j t (by simpa using hj)
theorem dp_getD : ∀ (zs : List D) (j : Nat), j < zs.length → dpP (toP (zs.getD j .non)) ≤ dpPs (toPs zs)
  | [], j, hj => by simp at hj
  | z :: zs, 0, _ => by show dpP (toP z) ≤ max (dpP (toP z)) _; omega
  | z :: zs, j + 1, hj => by
    have := dp_getD zs j (by simpa using hj)
    show dpP (toP ((z :: zs).getD (j + 1) .non)) ≤ max (dpP (toP z)) (dpPs (toPs zs))
    rw [List.getD_cons_succ]
    omega
theorem rc_tup {s : Shared} (k : Co) (n : Nat)
    (ih : ∀ (d e : D) (b : Bool) {v u : Value} (A : Around), ordN n k d e = some b → DIs s.heap d v → DIs s.heap e u → A.units + dpP (toP d) + 1 < cLine → Ob.RcOp k.op A s v u b)
    {xs ys : List D} {b : Bool} {v u : Value} {A : Around} (h' : ordLs (ordN n k) k xs ys = some b) (r1 : DIs s.heap (.tup xs) v) (r2 : DIs s.heap (.tup ys) u)
    (hu : A.units + dpP (toP (.tup xs)) + 1 < cLine) : Ob.RcOp k.op A s v u b := by
  cases r1 with
  | tup g1 g2 g3 l1 =>
  cases r2 with
  | tup k1 k2 k3 l2 =>
  rename_i a o its n1 a' o' its2 n2
  have p1 : s.heap.IsTuple a its := ⟨o, g1, g2, n1, g3⟩
  have p2 : s.heap.IsTuple a' its2 := ⟨o', k1, k2, n2, k3⟩
  have hu' : A.units + (dpPs (toPs xs) + 1) + 1 < cLine := hu
  have sz1 : its.size = xs.length := by rw [← l1.length, Array.length_toList]
  have sz2 : its2.size = ys.length := by rw [← l2.length, Array.length_toList]
  have eqs := eqAt_Ps (toPs xs) (toPs ys) A.in1 s its.toList its2.toList (DIsL.pis l1) (DIsL.pis l2) (by rw [PyProof.Rows.units_in1]; omega)
  have ords : ∀ j (h1 : j < its.size) (h2 : j < its2.size), Ob.RcOp k.op A.in1 s its[j] its2[j] ((ordN n k (xs.getD j .non) (ys.getD j .non)).getD false) := by
    intro j h1 h2
    have g1 : j < xs.length := by omega
    have g2 : j < ys.length := by omega
    obtain ⟨c, ec⟩ := ordLs_all h' j g1 g2
    rw [ec]
    have z1 := DIsL.at j l1 (by simpa using h1)
    have z2 := DIsL.at j l2 (by simpa using h2)
    have := dp_getD xs j g1
    refine ih _ _ c A.in1 ec (by simpa using z1) (by simpa using z2) ?_
    rw [PyProof.Rows.units_in1]
    omega
  have fin := lex_ord h'
  have hu0 : A.units < cLine := by omega
  have eqs' : ∀ j (h1 : j < its.size) (h2 : j < its2.size), EqAt A.in1 s its[j] its2[j] (pEqAt (toPs xs) (toPs ys) j) := fun j h1 h2 => by
    have := eqs j (by simpa using h1) (by simpa using h2)
    simpa using this
  rw [← sz1, ← sz2] at fin
  rw [← fin]
  cases k
  · exact Ob.RcOp.tuples_lt (e := pEqAt (toPs xs) (toPs ys)) p1 p2 hu0 eqs' fun j h1 h2 _ => ords j h1 h2
  · exact Ob.RcOp.tuples_le (e := pEqAt (toPs xs) (toPs ys)) p1 p2 hu0 eqs' fun j h1 h2 _ => ords j h1 h2
  · exact Ob.RcOp.tuples_gt (e := pEqAt (toPs xs) (toPs ys)) p1 p2 hu0 eqs' fun j h1 h2 _ => ords j h1 h2
  · exact Ob.RcOp.tuples_ge (e := pEqAt (toPs xs) (toPs ys)) p1 p2 hu0 eqs' fun j h1 h2 _ => ords j h1 h2
theorem rcOp_D {s : Shared} (k : Co) : ∀ (n : Nat) (d e : D) (b : Bool) {v u : Value} (A : Around), ordN n k d e = some b → DIs s.heap d v → DIs s.heap e u → A.units + dpP (toP d) + 1 < cLine → Ob.RcOp k.op A s v u b
  | n, d, e, b, v, u, A, h, r1, r2, hu => by
   unfold ordN at h
   split at h
   · cases r1; cases r2; cases h
     cases k
     · exact Ob.RcOp.lt_int _ _ _ _
     · exact Ob.RcOp.le_int _ _ _ _
     · exact Ob.RcOp.gt_int _ _ _ _
     · exact Ob.RcOp.ge_int _ _ _ _
   · cases r1; cases r2; cases h
     cases k
     · exact fun _ _ _ _ q => PyProof.Rows.lt_str q
     · exact fun _ _ _ _ q => PySem.P.le_str q
     · exact fun _ _ _ _ q => PySem.P.gt_str q
     · exact fun _ _ _ _ q => PySem.P.ge_str q
   · rename_i n xs ys
     exact rc_tup k n (fun d e b {v u} A => rcOp_D k n d e b A) h r1 r2 hu
   · cases h
theorem ordN_flat : ∀ (n : Nat) {k : Co} {d e : D} {b : Bool}, ordN n k d e = some b → (∀ i, d ≠ .tup i) → flat d = true ∧ flat e = true := by
  intro n k d e b h hd
  unfold ordN at h
  split at h
  · exact ⟨rfl, rfl⟩
  · exact ⟨rfl, rfl⟩
  · exact absurd rfl (hd _)
  · cases h
def rOrd (k : Co) : DR2 := fun d e G Q => ob (ordD k d e) fun b => (flat d = true ∧ flat e = true ∧ dpP (toP d) ≤ 60) ∧ Q (.bl b) G
theorem op_ordD (k : Co) (hu : X.A.units + 64 < cLine) : OpD X (compareOp k.op) (rOrd k) := by
  intro pins s σ H x y v u Q I rx ry ⟨d, e, G, R, A, r1, r2, q, kk⟩
  obtain ⟨b, e1, ⟨f1, f2, hd⟩, q⟩ := ob_iff.mp q
  have z : wpAny (model X.prog X.w) X.A (richCompare k.op v u) (EP X pins σ Q) X.xe s := rcOp_D k 4 d e b X.A e1 (Den.dis I d r1 rx f1) (Den.dis I e r2 ry f2) (by omega) X.prog X.w X.xe _ ⟨.bl b, H, I, rfl, kk _ G _ H q (.refl A) (.bl _)⟩
  cases k <;> exact z
theorem op_ltD (hu : X.A.units + 64 < cLine) : OpD X (compareOp .Lt) (rOrd .lt) := op_ordD .lt hu
theorem op_leD (hu : X.A.units + 64 < cLine) : OpD X (compareOp .LtE) (rOrd .le) := op_ordD .le hu
theorem op_gtD (hu : X.A.units + 64 < cLine) : OpD X (compareOp .Gt) (rOrd .gt) := op_ordD .gt hu
theorem op_geD (hu : X.A.units + 64 < cLine) : OpD X (compareOp .GtE) (rOrd .ge) := op_ordD .ge hu

/-! ### is, is not -/
def isNonD : D → Bool
  | .non => true
  | _ => false
def rIs : DR2 := fun d e G Q => match e with
  | .non => Q (.bl (isNonD d)) G
  | .bl b => (match d with | .bl a => Q (.bl (a == b)) G | _ => False)
  | _ => False
def rIsNot : DR2 := fun d e G Q => match e with
  | .non => Q (.bl (!isNonD d)) G
  | .bl b => (match d with | .bl a => Q (.bl (!(a == b))) G | _ => False)
  | _ => False
theorem isNon_den {K : PySem.W.Frag} {H : Hp} {d : D} {v : V} (r : Den K H d v) : decide (v = .non) = isNonD d := by cases r <;> simp [isNonD]
theorem op_isD : OpD X (compareOp .Is) rIs := by
  intro pins s σ H x y v u Q I rx ry ⟨d, e, G, R, A, r1, r2, q, k⟩
  unfold rIs at q
  split at q
  · cases r2
    refine op_isN pins s σ H _ _ v u Q I rx ry ⟨rfl, ?_⟩
    rw [isNon_den r1]
    exact k _ G _ H q (.refl A) (.bl _)
  · cases r2
    split at q
    · cases r1
      rename_i b _ a
      refine op_is_bl pins s σ H _ _ v u Q I rx ry ⟨a, b, rfl, rfl, ?_⟩
      have z : (a == b) = decide (a = b) := by cases a <;> cases b <;> rfl
      rw [← z]
      exact k _ G _ H q (.refl A) (.bl _)
    · exact q.elim
  · exact q.elim
theorem op_isNotD : OpD X (compareOp .IsNot) rIsNot := by
  intro pins s σ H x y v u Q I rx ry ⟨d, e, G, R, A, r1, r2, q, k⟩
  unfold rIsNot at q
  split at q
  · cases r2
    refine op_notN pins s σ H _ _ v u Q I rx ry ⟨rfl, ?_⟩
    rw [isNon_den r1]
    exact k _ G _ H q (.refl A) (.bl _)
  · cases r2
    split at q
    · cases r1
      rename_i b _ a
      refine op_isnot_bl pins s σ H _ _ v u Q I rx ry ⟨a, b, rfl, rfl, ?_⟩
      have z : (a == b) = decide (a = b) := by cases a <;> cases b <;> rfl
      rw [← z]
      exact k _ G _ H q (.refl A) (.bl _)
    · exact q.elim
  · exact q.elim

/-! ### in, not in: a sign in a text, an item in a tuple or list -/
open Classical in
/-- whether a value is such -/
noncomputable def eqW (h : Heap) (p : Pd) (u : Value) : Bool := decide (∃ q, PIs h q u ∧ eqP q p = true)
theorem eqW_of {h : Heap} {p q : Pd} {u : Value} (r : PIs h q u) : eqW h p u = eqP q p := by
  classical
  unfold eqW
  cases e : eqP q p with
  | true => exact decide_eq_true ⟨q, r, e⟩
  | false =>
    refine decide_eq_false ?_
    rintro ⟨q', r', e'⟩
    rw [PIs.inj _ _ _ r' r, e] at e'
    cases e'
theorem any_eqW {h : Heap} {p : Pd} : ∀ {qs : List Pd} {us : List Value}, PAll h qs us → us.any (eqW h p) = qs.any fun q => eqP q p
  | [], _, r => by cases r; rfl
  | q :: qs, _, r => by
    cases r with
    | cons r1 r2 => rw [List.any_cons, List.any_cons, eqW_of r1, any_eqW r2]
theorem mem_eqW {A : Around} {s : Shared} {p : Pd} {v : Value} (rp : PIs s.heap p v) : ∀ {qs : List Pd} {us : List Value}, PAll s.heap qs us → A.units + min (dpPs qs) (dpP p) < cLine → ∀ u ∈ us, EqAt A s u v (eqW s.heap p u)
  | [], _, r, _ => fun u hu => by cases r; cases hu
  | q :: qs, _, r, hm => fun u hu => by
    cases r with
    | cons r1 r2 =>
      have e : dpPs (q :: qs) = max (dpP q) (dpPs qs) := rfl
      rcases List.mem_cons.mp hu with rfl | hu
      · rw [eqW_of r1]
        exact eqAt_P q p A s _ _ r1 rp (by omega)
      · exact mem_eqW rp r2 (by omega) u hu
def rInS : DR2 := fun x y G Q => match y with
  | .tup ds => ob (res G x) fun p => ob (ress G ds) fun qs => (dpP p ≤ 60 ∨ dpPs qs ≤ 60) ∧ Q (.bl (qs.any fun q => eqP q p)) G
  | .ref a => (match G a with
    | some (.lst ds) => ob (res G x) fun p => ob (ress G ds) fun qs => (dpP p ≤ 60 ∨ dpPs qs ≤ 60) ∧ Q (.bl (qs.any fun q => eqP q p)) G
    | _ => False)
  | .str z => (match x with
    | .str c => c.length = 1 ∧ Q (.bl (decide (c.cps.getD 0 0 ∈ z.cps.toList))) G
    | _ => False)
  | _ => False
def neg (r : DR2) : DR2 := fun x y G Q => r x y G fun z G' => match z with | .bl b => Q (.bl (!b)) G' | _ => False
theorem one_sign {c : Str} (h : c.length = 1) : c = ⟨#[c.cps.getD 0 0]⟩ := by
  obtain ⟨⟨l⟩⟩ := c
  match l, h with
  | [a], _ => rfl
theorem op_inSD (hu : X.A.units + 64 < cLine) : OpD X (compareOp .In) rInS := by
  intro pins s σ H x y v u Q I rx ry ⟨d, e, G, R, A, r1, r2, q, k⟩
  unfold rInS at q
  split at q
  · obtain ⟨p, e1, q⟩ := ob_iff.mp q
    obtain ⟨qs, e2, hd, q⟩ := ob_iff.mp q
    cases r2 with
    | tup hq hl =>
    cases ry
    obtain ⟨its, rv, pl, hz⟩ := I.tuple hq
    have P1 := Den.res I A d r1 rx e1
    have P2 := DenL.ress I A _ hl rv e2
    refine SeqAt.in_tupleAt (eqW s.heap p) pl (fun w hw => mem_eqW P1 P2 (by rw [PyProof.Rows.units_in1]; omega) w (by simpa using hw)) ⟨.bl _, H, I, rfl, ?_⟩
    rw [show its.toArray.any (eqW s.heap p) = its.any (eqW s.heap p) by simp, any_eqW P2]
    exact k _ G _ H q (.refl A) (.bl _)
  · rename_i a
    split at q
    · rename_i ds eg
      obtain ⟨p, e1, q⟩ := ob_iff.mp q
      obtain ⟨qs, e2, hd, q⟩ := ob_iff.mp q
      cases r2
      obtain ⟨us, hu', hl⟩ := A a _ eg
      cases ry
      obtain ⟨its, rv, pl, hz⟩ := I.list (.of hu')
      have P1 := Den.res I A d r1 rx e1
      have P2 := DenL.ress I A _ hl rv e2
      refine SeqAt.in_listAt (eqW s.heap p) pl.isList (fun w hw => mem_eqW P1 P2 (by rw [PyProof.Rows.units_in1]; omega) w (by simpa using hw)) ⟨.bl _, H, I, rfl, ?_⟩
      rw [show its.toArray.any (eqW s.heap p) = its.any (eqW s.heap p) by simp, any_eqW P2]
      exact k _ G _ H q (.refl A) (.bl _)
    · exact q.elim
  · split at q
    · rename_i z _ c
      obtain ⟨h1, q⟩ := q
      cases r1; cases r2
      exact op_in_sign pins s σ H _ _ v u Q I rx ry ⟨_, z, congrArg V.str (one_sign h1), rfl, k _ G _ H q (.refl A) (.bl _)⟩
    · exact q.elim
  · exact q.elim
theorem op_notInSD (hu : X.A.units + 64 < cLine) : OpD X (compareOp .NotIn) (neg rInS) := by
  intro pins s σ H x y v u Q I rx ry ⟨d, e, G, R, A, r1, r2, q, k⟩
  unfold neg rInS at q
  split at q
  · obtain ⟨p, e1, q⟩ := ob_iff.mp q
    obtain ⟨qs, e2, hd, q⟩ := ob_iff.mp q
    cases r2 with
    | tup hq hl =>
    cases ry
    obtain ⟨its, rv, pl, hz⟩ := I.tuple hq
    have P1 := Den.res I A d r1 rx e1
    have P2 := DenL.ress I A _ hl rv e2
    refine SeqAt.notIn_tupleAt (eqW s.heap p) pl (fun w hw => mem_eqW P1 P2 (by rw [PyProof.Rows.units_in1]; omega) w (by simpa using hw)) ⟨.bl _, H, I, rfl, ?_⟩
    rw [show its.toArray.any (eqW s.heap p) = its.any (eqW s.heap p) by simp, any_eqW P2]
    exact k _ G _ H q (.refl A) (.bl _)
  · rename_i a
    split at q
    · rename_i ds eg
      obtain ⟨p, e1, q⟩ := ob_iff.mp q
      obtain ⟨qs, e2, hd, q⟩ := ob_iff.mp q
      cases r2
      obtain ⟨us, hu', hl⟩ := A a _ eg
      cases ry
      obtain ⟨its, rv, pl, hz⟩ := I.list (.of hu')
      have P1 := Den.res I A d r1 rx e1
      have P2 := DenL.ress I A _ hl rv e2
      refine SeqAt.notIn_listAt (eqW s.heap p) pl.isList (fun w hw => mem_eqW P1 P2 (by rw [PyProof.Rows.units_in1]; omega) w (by simpa using hw)) ⟨.bl _, H, I, rfl, ?_⟩
      rw [show its.toArray.any (eqW s.heap p) = its.any (eqW s.heap p) by simp, any_eqW P2]
      exact k _ G _ H q (.refl A) (.bl _)
    · exact q.elim
  · split at q
    · rename_i z _ c
      obtain ⟨h1, q⟩ := q
      cases r1; cases r2
      exact op_notIn_sign pins s σ H _ _ v u Q I rx ry ⟨_, z, congrArg V.str (one_sign h1), rfl, k _ G _ H q (.refl A) (.bl _)⟩
    · exact q.elim
  · exact q.elim

/-! ### x[i] of texts, tuples, lists -/
def rIxS : DR2 := fun d e G Q => match e with
  | .int i => (match d with
    | .str z => ob (atI z.cps.toList i) fun c => Q (.str ⟨#[c]⟩) G
    | .tup ds => ob (atI ds i) fun d => Q d G
    | .scr ds => ob (atI ds i) fun d => Q d G
    | .ref a => (match G a with
      | some (.lst ds) => ob (atI ds i) fun d => Q d G
      | _ => False)
    | _ => False)
  | _ => False
theorem atI_den {K : PySem.W.Frag} {H : Hp} {ds : List D} {vs : List V} {i : Int} {d : D} (h : DenL K H ds vs) (e : atI ds i = some d) : ∃ v, atI vs i = some v ∧ Den K H d v := by
  unfold atI at e ⊢
  rw [← h.length]
  cases q : ixN ds.length i with
  | none => rw [q] at e; cases e
  | some j =>
    rw [q] at e
    exact h.get e
theorem ix_SD : IxD X rIxS := by
  intro v0 s0 pins s σ H x y v u Q I rx ry ⟨d, e, G, R, A, r1, r2, q, k⟩ hs
  unfold rIxS at q
  split at q
  · rename_i i
    cases r2
    split at q
    · rename_i z
      obtain ⟨c, e1, q⟩ := ob_iff.mp q
      cases r1 with
      | str _ hz => exact ix_str v0 s0 pins s σ H _ _ v u Q I rx ry ⟨z, i, c, rfl, rfl, hz, e1, k _ G _ H q (.refl A) (.str _ (by show 1 ≤ sizeLine; decide))⟩ hs
    · rename_i ds
      obtain ⟨c, e1, q⟩ := ob_iff.mp q
      cases r1 with
      | tup hq hl =>
      obtain ⟨w, ew, rw'⟩ := atI_den hl e1
      exact ix_tup v0 s0 pins s σ H _ _ v u Q I rx ry ⟨_, _, i, w, rfl, rfl, hq, ew, k _ G _ H q (.refl A) rw'⟩ hs
    · rename_i ds
      obtain ⟨c, e1, q⟩ := ob_iff.mp q
      cases r1 with
      | scr hq hl =>
      obtain ⟨w, ew, rw'⟩ := atI_den hl e1
      exact ix_list v0 s0 pins s σ H _ _ v u Q I rx ry ⟨_, _, i, w, rfl, rfl, hq.sq, ew, k _ G _ H q (.refl A) rw'⟩ hs
    · rename_i a
      cases r1
      split at q
      · rename_i ds eg
        obtain ⟨c, e1, q⟩ := ob_iff.mp q
        obtain ⟨us, hu, hl⟩ := A a _ eg
        obtain ⟨w, ew, rw'⟩ := atI_den hl e1
        exact ix_list v0 s0 pins s σ H _ _ v u Q I rx ry ⟨_, _, i, w, rfl, rfl, .of hu, ew, k _ G _ H q (.refl A) rw'⟩ hs
      · exact q.elim
    · exact q.elim
  · exact q.elim
end
end DD

/-! D-layer 8: dicts whose keys are None, ints, texts, tuples of such -/
namespace DD
open PySem PySem.Spec PyProof.Rows L2 SeqAt
/-- entry e has the key k -/
def EntK (w : World) (h : Heap) (k : NestedKey) (e : DictEntry) : Prop := NestedIs h k e.key ∧ e.hash = k.hash w ∧ k.depth ≤ 8
section
variable {prog : Program} {w : World} {A : Around} {E : Value → Shared → Prop} {s : Shared}
theorem tmt_quiet {key : Value} {k : NestedKey} {stored : List Value} {Q : Bool → Shared → Prop} (hk : NestedIs s.heap k key) (h8 : k.depth ≤ 8)
    (hst : ∀ v ∈ stored, ∃ k', NestedIs s.heap k' v ∧ k'.depth ≤ 8) (h : Q false s) : wpAny (model prog w) A (tableMayTell key stored) Q E s := by
  unfold tableMayTell
  split
  · exact wpAny_pure h
  · refine wpAny_bind (quiet_key k key 8 s hk h8 A E _ ?_)
    simp only [Bool.not_true, Bool.false_eq_true, if_false]
    refine wpAny_bind ?_
    refine wpAny_forIn_list _ (fun rest r s' => s' = s ∧ r = (none, ()) ∧ ∀ v ∈ rest, ∃ k', NestedIs s.heap k' v ∧ k'.depth ≤ 8) _ ?_ ?_ _ _ ⟨rfl, rfl, hst⟩
    · rintro x rest r s' ⟨rfl, rfl, hr⟩
      obtain ⟨k', hb, h8'⟩ := hr x List.mem_cons_self
      refine wpAny_bind (quiet_key k' x 8 _ hb h8' A E _ ?_)
      simp only [Bool.not_true, Bool.false_eq_true, if_false]
      exact wpAny_pure ⟨rfl, rfl, fun v hv => hr v (List.mem_cons_of_mem _ hv)⟩
    · rintro r s' ⟨rfl, rfl, _⟩
      exact wpAny_pure h
theorem nat_unique {ks : List NestedKey} (hn : ks.Nodup) {i j : Nat} {k : NestedKey} (hi : ks[i]? = some k) (hj : ks[j]? = some k) : i = j :=
  (List.getElem?_inj (List.getElem?_eq_some_iff.mp hi).1 hn).mp (hi.trans hj.symm)
theorem eqb_key {k k' : NestedKey} {u v : Value} {Q : Bool → Shared → Prop} (hu : A.units + 8 < cLine) (h : NestedIs s.heap k' u) (h' : NestedIs s.heap k v) (d8 : k'.depth ≤ 8) (q : Q (decide (k' = k)) s) : wpAny (model prog w) A (eqBool u v) Q E s :=
  eqAt_key k' k A s u v h h' (by omega) prog w E Q (by rw [← NestedKey.decide_eq]; exact q)
theorem mem_of_none {ks : List NestedKey} {k : NestedKey} (h : ∀ j : Nat, ks[j]? ≠ some k) : k ∉ ks := by
  intro hm
  obtain ⟨j, hj⟩ := List.mem_iff_getElem?.mp hm
  exact h j hj
theorem find_nested {d : Addr} {o : Obj} {es : Array DictEntry} {ep : Nat} {ks : List NestedKey} {key : Value} {k : NestedKey} {Q : Option Nat → Shared → Prop} (hu : A.units + 8 < cLine) (hk : NestedIs s.heap k key) (h8 : k.depth ≤ 8)
    (ho : s.heap.get? d = some o) (hd : o.data = .dict es ep) (P : Paired (EntK w s.heap) ks es.toList) (hn : ks.Nodup)
    (hnone : k ∉ ks → Q none s) (hsome : ∀ j : Nat, ks[j]? = some k → Q (some j) s) : wpAny (model prog w) A (dictFind d key (k.hash w)) Q E s := by
  have hlen : ks.length = es.size := by rw [Paired.len P, Array.length_toList]
  have hent : ∀ (j : Nat) (e : DictEntry), es[j]? = some e → ∃ k', ks[j]? = some k' ∧ EntK w s.heap k' e := by
    intro j e he
    have e1 : es.toList[j]? = some e := by rw [Array.getElem?_toList]; exact he
    have aux : ∀ {l₁ : List NestedKey} {l₂ : List DictEntry} (P : Paired (EntK w s.heap) l₁ l₂) (j : Nat) (e : DictEntry), l₂[j]? = some e → ∃ k', l₁[j]? = some k' ∧ EntK w s.heap k' e := by
      intro l₁ l₂ P
      induction P with
      | nil => intro j e h; simp at h
      | cons a t ih =>
        intro j e h
        cases j with
        | zero => simp at h; subst h; exact ⟨_, rfl, a⟩
        | succ j =>
          obtain ⟨k', h1, h2⟩ := ih j e (by simpa using h)
          exact ⟨k', by simpa using h1, h2⟩
    exact aux P j e e1
  have hkey : ∀ (j : Nat) (k' : NestedKey), ks[j]? = some k' → ∃ e, es[j]? = some e ∧ EntK w s.heap k' e := by
    intro j k' h
    have hj : j < es.size := by rw [← hlen]; exact (List.getElem?_eq_some_iff.mp h).1
    obtain ⟨k'', h1, h2⟩ := hent j es[j] (Array.getElem?_eq_getElem hj)
    rw [h] at h1
    cases h1
    exact ⟨_, Array.getElem?_eq_getElem hj, h2⟩
  have haskey : ∀ (j : Nat), ks[j]? = some k → ((es[j]?.map (·.hash)) == some (k.hash w)) = true := by
    intro j hj
    obtain ⟨e, he, x⟩ := hkey j k hj
    rw [he, Option.map_some, x.2.1]
    simp
  have hst : ∀ v ∈ (placesWithHash es.size (fun i => es[i]?.map (·.hash)) (k.hash w)).filterMap (fun i => es[i]?.map (·.key)), ∃ k', NestedIs s.heap k' v ∧ k'.depth ≤ 8 := by
    intro v hv
    obtain ⟨i, _, hi⟩ := List.mem_filterMap.mp hv
    cases hei : es[i]? with
    | none => rw [hei] at hi; cases hi
    | some e =>
      rw [hei] at hi
      obtain rfl : e.key = v := by simpa using hi
      obtain ⟨k', _, x⟩ := hent i e hei
      exact ⟨k', x.1, x.2.2⟩
  have plain : wpAny (model prog w) A (dictWalkPlain d key (k.hash w) es (placesWithHash es.size (fun i => es[i]?.map (·.hash)) (k.hash w))) Q E s := by
    refine wpAny_bind ?_
    refine wpAny_forIn_list _
      (fun rest b s' => s' = s ∧ b = (none, ()) ∧ ∃ i, rest = (List.range' i (es.size - i)).filter (fun i => (es[i]?.map (·.hash)) == some (k.hash w)) ∧ i ≤ es.size ∧
        ∀ j, j < i → ks[j]? ≠ some k) _ ?_ ?_ _ _
      ⟨rfl, rfl, 0, by rw [placesWithHash, List.range_eq_range', Nat.sub_zero], Nat.zero_le _, fun _ h => absurd h (Nat.not_lt_zero _)⟩
    · rintro x rest b s' ⟨rfl, rfl, i, hr, hi, hno⟩
      obtain ⟨hix, hxn, hpx, hskip, hrest⟩ := filter_range'_cons _ _ _ _ _ hr.symm
      have hlt : x < es.size := by omega
      obtain ⟨k', hk', xe⟩ := hent x es[x] (Array.getElem?_eq_getElem hlt)
      have hnext : ¬ k' = k → ∃ i, rest = (List.range' i (es.size - i)).filter (fun i => (es[i]?.map (·.hash)) == some (k.hash w)) ∧ i ≤ es.size ∧
          ∀ j, j < i → ks[j]? ≠ some k := fun hne =>
        ⟨x + 1, by rw [hrest]; congr 2; omega, hlt, fun j hji hj => by
          rcases Nat.lt_or_ge j i with h | h
          · exact hno j h hj
          · rcases Nat.lt_or_ge j x with h' | h'
            · have := hskip j h h'
              rw [haskey j hj] at this
              exact absurd this (by decide)
            · have : j = x := by omega
              subst this
              rw [hk'] at hj
              injection hj with hj
              exact hne hj⟩
      simp only [Array.getElem?_eq_getElem hlt]
      by_cases hh : (es[x].hash == k.hash w) = true
      · rw [if_pos hh]
        refine wpAny_bind (wpAny_dictEpoch ho hd (wpAny_bind (eqb_key hu xe.1 hk xe.2.2 (wpAny_bind (wpAny_dictEpoch ho hd ?_)))))
        show wpAny _ _ (if (ep != ep) = true then _ else _) _ E _
        rw [if_neg (by simp)]
        by_cases hkk : k' = k
        · rw [decide_eq_true hkk]
          subst hkk
          exact wpAny_bind (wpAny_rule (wpAny_pure (wpAny_pure (hsome x hk'))))
        · rw [decide_eq_false hkk]
          exact wpAny_bind (wpAny_rule (wpAny_pure ⟨rfl, rfl, hnext hkk⟩))
      · rw [if_neg hh]
        refine wpAny_pure ⟨rfl, rfl, hnext ?_⟩
        intro hkk
        rw [xe.2.1, hkk] at hh; simp at hh
    · rintro b s' ⟨rfl, rfl, i, hr, hi, hno⟩
      refine wpAny_pure (hnone (mem_of_none fun j hj => ?_))
      rcases Nat.lt_or_ge j i with h | h
      · exact hno j h hj
      · have hjl : j < es.size := by rw [← hlen]; exact (List.getElem?_eq_some_iff.mp hj).1
        have := List.filter_eq_nil_iff.mp hr.symm j (List.mem_range'_1.mpr ⟨h, by omega⟩)
        exact this (haskey j hj)
  have text : ∀ (x : Str) (t : Tok), k = .text x → key = .str x t → (es.all fun e => isExactStrKey e.key) = true → wpAny (model prog w) A (foundByValue d key es x) Q E s := by
    intro x t ek ekey hall
    have hiff : ∀ (j : Nat) (e : DictEntry), es[j]? = some e → (e.key.isStr x = true ↔ ks[j]? = some k) := by
      intro j e he
      obtain ⟨k', h1, x1⟩ := hent j e he
      have hs : isExactStrKey e.key = true := by
        rw [Array.all_eq_true] at hall
        obtain ⟨hj, rfl⟩ := Array.getElem?_eq_some_iff.mp he
        exact hall j hj
      rw [h1, ek]
      obtain ⟨hx1, _, _⟩ := x1
      generalize e.key = ky at hx1 hs
      cases ky with
      | str y u =>
        cases hx1
        constructor
        · intro q
          have : y = x := by simpa [Value.isStr] using q
          rw [this]
        · intro q
          have : y = x := by injection q with q; injection q
          rw [this]
          simp [Value.isStr]
      | _ => exact absurd (show false = true from hs) Bool.false_ne_true
    unfold foundByValue
    cases hf : es.findIdx? (fun e => e.key.isStr x) with
    | none =>
      refine wpAny_pure (hnone (mem_of_none fun j hj => ?_))
      obtain ⟨e, he, _⟩ := hkey j k hj
      have := Array.findIdx?_eq_none_iff.mp hf e (Array.mem_of_getElem? he)
      rw [(hiff j e he).mpr hj] at this
      exact absurd this (by decide)
    | some i =>
      obtain ⟨hlt, hi, _⟩ := Array.findIdx?_eq_some_iff_getElem.mp hf
      have hki := (hiff i es[i] (Array.getElem?_eq_getElem hlt)).mp hi
      obtain ⟨k', h1, x1⟩ := hent i es[i] (Array.getElem?_eq_getElem hlt)
      rw [hki] at h1
      cases h1
      simp only [Array.getElem?_eq_getElem hlt]
      refine wpAny_bind (wpAny_dictEpoch ho hd (wpAny_bind (eqb_key hu x1.1 hk x1.2.2 (wpAny_bind (wpAny_dictEpoch ho hd ?_)))))
      show wpAny _ _ (if (ep != ep) = true then _ else _) _ E _
      rw [if_neg (by simp), decide_eq_true rfl]
      exact wpAny_bind (wpAny_rule (wpAny_pure (hsome i hki)))
  have hany : ∀ a, key = .ref a → ¬ (es.any fun e => e.key == Value.ref a && e.hash != k.hash w) = true := by
    intro a ea
    rw [← Array.any_toList, List.any_eq_true]
    rintro ⟨e, hin, hc⟩
    obtain ⟨j, hj⟩ := List.mem_iff_getElem?.mp hin
    rw [Array.getElem?_toList] at hj
    obtain ⟨k', _, x⟩ := hent j e hj
    simp only [Bool.and_eq_true, beq_iff_eq, bne_iff_ne, ne_eq] at hc
    obtain ⟨h1, h2⟩ := hc
    have hx := x.1
    rw [h1, ← ea] at hx
    rw [NestedIs.inj _ _ _ hx hk] at x
    exact h2 x.2.1
  have last : ∀ (key' : Value), key' = key → (tells : Bool) → tells = false → True := fun _ _ _ _ => trivial
  unfold dictFind
  try with_reducible refine wpAny_holding ?_
  refine wpAny_bind (wpAny_dictEntries ho hd ?_)
  dsimp only
  have tail : ∀ (stored : List Value), stored = (placesWithHash es.size (fun i => es[i]?.map (·.hash)) (k.hash w)).filterMap (fun i => es[i]?.map (·.key)) →
      wpAny (model prog w) A (do
        let tells ← if stored == [key] then pure false else tableMayTell key stored
        if tells && stored.length ≥ 2 then unsupported "dict.find:order-among-keys-of-one-hash"
        let mut hit : Option Nat := none
        for i in placesWithHash es.size (fun i => es[i]?.map (·.hash)) (k.hash w) do
          if let some e := es[i]? then
            if e.hash == k.hash w then
              let before ← dictEpoch d (keyPart key)
              let same ← eqBool e.key key
              if (← dictEpoch d (keyPart key)) != before then unsupported "dict.changed-during-lookup"
              if same then
                if hit.isSome then unsupported "dict.find:order-among-keys-of-one-hash"
                rule "dict.find.hit"
                if stored.length < 2 then return some i
                hit := some i
              else
                rule "dict.find.same-hash-other-key"
                if tells && !(0 ≤ k.hash w && k.hash w < 32) then unsupported "dict.find:asked-again-or-not-hangs-on-the-table"
        return hit) Q E s := by
    intro stored hstored
    have hst' : ∀ v ∈ stored, ∃ k', NestedIs s.heap k' v ∧ k'.depth ≤ 8 := by rw [hstored]; exact hst
    by_cases hone : (stored == [key]) = true <;>
    (first | rw [if_pos hone] | rw [if_neg hone]) <;> (first | refine wpAny_bind (wpAny_pure ?_) | refine wpAny_bind (tmt_quiet hk h8 hst' ?_)) <;> (
      (try dsimp only)
      rw [if_neg (by simp)]
      refine wpAny_bind ?_
      refine wpAny_forIn_list _
        (fun rest b s' => s' = s ∧ ∃ i hit, b = (none, hit) ∧ rest = (List.range' i (es.size - i)).filter (fun i => (es[i]?.map (·.hash)) == some (k.hash w)) ∧ i ≤ es.size ∧
          ((hit = none ∧ ∀ j, j < i → ks[j]? ≠ some k) ∨ ∃ j, hit = some j ∧ j < i ∧ ks[j]? = some k)) _ ?_ ?_ _ _
        ⟨rfl, 0, none, rfl, by rw [placesWithHash, List.range_eq_range', Nat.sub_zero], Nat.zero_le _, .inl ⟨rfl, fun _ h => absurd h (Nat.not_lt_zero _)⟩⟩
      · rintro x rest b s' ⟨rfl, i, hit, rfl, hr, hi, hH⟩
        obtain ⟨hix, hxn, hpx, hskip, hrest⟩ := filter_range'_cons _ _ _ _ _ hr.symm
        have hlt : x < es.size := by omega
        have hrest' : rest = (List.range' (x + 1) (es.size - (x + 1))).filter (fun i => (es[i]?.map (·.hash)) == some (k.hash w)) := by rw [hrest]; congr 2; omega
        obtain ⟨k', hk', xe⟩ := hent x es[x] (Array.getElem?_eq_getElem hlt)
        have hHx : (hit = none ∧ ∀ j, j < x → ks[j]? ≠ some k) ∨ ∃ j, hit = some j ∧ j < x ∧ ks[j]? = some k := by
          rcases hH with ⟨h0, hno⟩ | ⟨j, h1, hji, hj⟩
          · refine .inl ⟨h0, fun j hjx hj => ?_⟩
            rcases Nat.lt_or_ge j i with h | h
            · exact hno j h hj
            · have := hskip j h hjx
              rw [haskey j hj] at this
              exact absurd this (by decide)
          · exact .inr ⟨j, h1, by omega, hj⟩
        have hstay : ¬ k' = k → ((hit = none ∧ ∀ j, j < x + 1 → ks[j]? ≠ some k) ∨ ∃ j, hit = some j ∧ j < x + 1 ∧ ks[j]? = some k) := by
          intro hne
          rcases hHx with ⟨h0, hno⟩ | ⟨j, h1, hjx, hj⟩
          · refine .inl ⟨h0, fun j hjx hj => ?_⟩
            rcases Nat.lt_or_ge j x with h | h
            · exact hno j h hj
            · have hjx' : j = x := by omega
              subst hjx'
              rw [hk'] at hj
              injection hj with hj
              exact hne hj
          · exact .inr ⟨j, h1, by omega, hj⟩
        simp only [Array.getElem?_eq_getElem hlt]
        by_cases hh : (es[x].hash == k.hash w) = true
        · rw [if_pos hh]
          refine wpAny_bind (wpAny_dictEpoch ho hd (wpAny_bind (eqb_key hu xe.1 hk xe.2.2 (wpAny_bind (wpAny_dictEpoch ho hd ?_)))))
          show wpAny _ _ (if (ep != ep) = true then _ else _) _ E _
          rw [if_neg (by simp)]
          by_cases hkk : k' = k
          · rw [decide_eq_true hkk]
            subst hkk
            rcases hHx with ⟨rfl, _⟩ | ⟨j, _, hjx, hj⟩
            · first | rw [if_pos rfl] | skip
              simp only [Option.isSome_none, Bool.false_eq_true, if_false]
              first | refine wpAny_bind (wpAny_pure ?_) | skip
              refine wpAny_bind (wpAny_rule ?_)
              split
              · exact wpAny_pure (wpAny_pure (hsome x hk'))
              · exact wpAny_pure ⟨rfl, x + 1, some x, rfl, hrest', hlt, .inr ⟨x, rfl, Nat.lt_succ_self x, hk'⟩⟩
            · exact absurd (nat_unique hn hj hk') (by omega)
          · rw [decide_eq_false hkk]
            simp only [Bool.false_eq_true, if_false]
            refine wpAny_bind (wpAny_rule ?_)
            first | rw [if_neg (by simp)] | skip
            first
              | exact wpAny_pure ⟨rfl, x + 1, hit, rfl, hrest', hlt, hstay hkk⟩
              | exact wpAny_bind (wpAny_pure (wpAny_pure ⟨rfl, x + 1, hit, rfl, hrest', hlt, hstay hkk⟩))
        · rw [if_neg hh]
          refine wpAny_pure ⟨rfl, x + 1, hit, rfl, hrest', hlt, hstay ?_⟩
          intro hkk
          rw [xe.2.1, hkk] at hh; simp at hh
      · rintro b s' ⟨rfl, i, hit, rfl, hr, hi, hH⟩
        have hall : ∀ j, i ≤ j → j < es.size → ((es[j]?.map (·.hash)) == some (k.hash w)) = false := by
          intro j h1 h2
          have := List.filter_eq_nil_iff.mp hr.symm j (List.mem_range'_1.mpr ⟨h1, by omega⟩)
          simpa using this
        rcases hH with ⟨rfl, hno⟩ | ⟨j, rfl, _, hj⟩
        · refine wpAny_pure (hnone (mem_of_none fun j hj => ?_))
          rcases Nat.lt_or_ge j i with h | h
          · exact hno j h hj
          · have hjl : j < es.size := by rw [← hlen]; exact (List.getElem?_eq_some_iff.mp hj).1
            have := hall j h hjl
            rw [haskey j hj] at this
            exact absurd this (by decide)
        · exact wpAny_pure (hsome j hj))
  have rest : ∀ (stored : List Value), stored = (placesWithHash es.size (fun i => es[i]?.map (·.hash)) (k.hash w)).filterMap (fun i => es[i]?.map (·.key)) → True := fun _ _ => trivial
  cases hk with
  | none =>
    by_cases hall : ((Value.none :: (placesWithHash es.size (fun i => es[i]?.map (·.hash)) (NestedKey.none.hash w)).filterMap (fun i => es[i]?.map (·.key))).all carriedByValue) = true
    · rw [if_pos hall]; exact plain
    · rw [if_neg hall]; exact tail _ rfl
  | @bool b i e =>
    by_cases hall : ((Value.bool b :: (placesWithHash es.size (fun i => es[i]?.map (·.hash)) ((NestedKey.num i).hash w)).filterMap (fun i => es[i]?.map (·.key))).all carriedByValue) = true
    · rw [if_pos hall]; exact plain
    · rw [if_neg hall]; exact tail _ rfl
  | int i t =>
    by_cases hall : ((Value.int i t :: (placesWithHash es.size (fun i => es[i]?.map (·.hash)) ((NestedKey.num i).hash w)).filterMap (fun i => es[i]?.map (·.key))).all carriedByValue) = true
    · rw [if_pos hall]; exact plain
    · rw [if_neg hall]; exact tail _ rfl
  | text x t =>
    dsimp only
    by_cases hstr : (es.all fun e => isExactStrKey e.key) = true
    · rw [if_pos hstr]; exact text x t rfl rfl hstr
    · rw [if_neg hstr]
      by_cases hall : ((Value.str x t :: (placesWithHash es.size (fun i => es[i]?.map (·.hash)) ((NestedKey.text x).hash w)).filterMap (fun i => es[i]?.map (·.key))).all carriedByValue) = true
      · rw [if_pos hall]; exact plain
      · rw [if_neg hall]; exact tail _ rfl
  | @tup a o' vs n ks' h1 h2 h3 h4 =>
    rw [if_neg (show ¬ ((Value.ref a :: (placesWithHash es.size (fun i => es[i]?.map (·.hash)) ((NestedKey.tup ks').hash w)).filterMap (fun i => es[i]?.map (·.key))).all carriedByValue) = true by simp [carriedByValue])]
    rw [if_neg (hany a rfl)]
    exact tail _ rfl
end
end DD

/-! D-layer 9: dicts, the steps -/
namespace DD
open PySem PySem.Spec PyProof.Rows L2 SeqAt
/-- the dict at d with its entries and their keys -/
def DAt (w : World) (h : Heap) (d : Addr) (ks : List NestedKey) (raw : List DictEntry) : Prop :=
  ∃ (o : Obj) (es : Array DictEntry) (ep : Nat), h.get? d = some o ∧ o.ExactDict ∧ o.data = .dict es ep ∧ es.toList = raw ∧ Paired (EntK w h) ks raw ∧ ks.Nodup
theorem Paired.at {α β : Type} {F : α → β → Prop} : ∀ {l₁ : List α} {l₂ : List β} {j : Nat} {x : α}, Paired F l₁ l₂ → l₁[j]? = some x → ∃ y, l₂[j]? = some y ∧ F x y
  | _, _, _, _, .nil, h => by simp at h
  | _, _, 0, _, .cons a _, h => by simp at h; subst h; exact ⟨_, rfl, a⟩
  | _, _, j + 1, x, .cons _ t, h => by
    obtain ⟨y, h1, h2⟩ := Paired.at (j := j) (x := x) t (by simpa using h)
    exact ⟨y, by simpa using h1, h2⟩
theorem DAt.typeIs {s : Shared} {w : World} {d : Addr} {ks : List NestedKey} {raw : List DictEntry} (x : DAt w s.heap d ks raw) : s.TypeIs (.ref d) "dict" := by
  obtain ⟨o, _, _, ho, hc, _⟩ := x
  exact ⟨o, ho, hc.1⟩
theorem DAt.noDict {h : Heap} {w : World} {d : Addr} {ks : List NestedKey} {raw : List DictEntry} (x : DAt w h d ks raw) : ∀ b, Value.ref d = .ref b → ∃ ob, h.get? b = some ob ∧ ob.dict = none := by
  intro b e
  cases e
  obtain ⟨o, _, _, ho, hc, _⟩ := x
  exact ⟨o, ho, hc.2.1⟩
section
variable {prog : Program} {w : World} {A : Around} {E : Value → Shared → Prop} {s : Shared} {d : Addr} {ks : List NestedKey} {raw : List DictEntry} {key : Value} {k : NestedKey}
/-- the state behind the hash -/
abbrev hsh (s : Shared) (k : NestedKey) : Shared := { s with toks := s.toks + k.draws }
theorem dGet_n {Q : Option Value → Shared → Prop} (hu : A.units + 8 < cLine) (hk : NestedIs s.heap k key) (h8 : k.depth ≤ 8) (D : DAt w s.heap d ks raw)
    (hnone : k ∉ ks → Q none (hsh s k)) (hsome : ∀ (j : Nat) e, ks[j]? = some k → raw[j]? = some e → Q (some e.val) (hsh s k)) : wpAny (model prog w) A (dictGet d key) Q E s := by
  obtain ⟨o, es, ep, ho, hc, hd, rfl, P, hn⟩ := D
  unfold dictGet
  try with_reducible refine wpAny_holding ?_
  refine wpAny_bind (pyHash_key k key A s _ hk (by omega) (wpAny_bind (find_nested (s := hsh s k) hu hk h8 ho hd P hn ?_ ?_)))
  · intro hno
    exact wpAny_pure (hnone hno)
  · intro j hj
    obtain ⟨e, he, x⟩ := Paired.at P hj
    refine wpAny_bind (wpAny_dictEntries (s := hsh s k) ho hd ?_)
    rw [show es[j]? = some e by rw [← Array.getElem?_toList]; exact he]
    exact wpAny_pure (hsome j e hj he)
theorem DictRaw.upd {h : Heap} {o : Obj} {es : Array DictEntry} {ep : Nat} (ho : h.get? d = some o) (hc : o.ExactDict) (hd : o.data = .dict es ep) (f : Array DictEntry → Array DictEntry) (g : (f es).toList = raw) :
    DictRaw d raw (h.update d (Obj.mapDict f)) := ⟨_, _, ep, Heap.get?_update_self _ ho (Obj.isFreed_of_dict (Obj.data_mapDict hd _)), hc.mapDict _, Obj.data_mapDict hd _, g⟩
theorem DictRaw.updK {h : Heap} {o : Obj} {es : Array DictEntry} {ep : Nat} (ho : h.get? d = some o) (hc : o.ExactDict) (hd : o.data = .dict es ep) (f : Array DictEntry → Array DictEntry) (g : (f es).toList = raw) :
    DictRaw d raw (h.update d (Obj.mapDictKeys f)) := ⟨_, _, ep + 1, Heap.get?_update_self _ ho (Obj.isFreed_of_dict (Obj.data_mapDictKeys hd _)), hc.mapDictKeys _, Obj.data_mapDictKeys hd _, g⟩
theorem dSet_n {v : Value} {Q : Unit → Shared → Prop} (hu : A.units + 8 < cLine) (hk : NestedIs s.heap k key) (h8 : k.depth ≤ 8) (D : DAt w s.heap d ks raw) (hz : raw.length ≤ sizeLine)
    (hnone : k ∉ ks → ∀ h', DictRaw d (raw ++ [⟨k.hash w, key, v⟩]) h' → Heap.SameBut d s.heap h' → Q () { s with heap := h', toks := s.toks + k.draws })
    (hsome : ∀ (j : Nat), ks[j]? = some k → ∀ h', DictRaw d (raw.modify j fun e => { e with val := v }) h' → Heap.SameBut d s.heap h' → Q () { s with heap := h', toks := s.toks + k.draws }) : wpAny (model prog w) A (dictSet d key v) Q E s := by
  obtain ⟨o, es, ep, ho, hc, hd, rfl, P, hn⟩ := D
  unfold dictSet
  try with_reducible refine wpAny_holding ?_
  refine wpAny_bind (pyHash_key k key A s _ hk (by omega) ?_)
  unfold dictSetHashed
  try with_reducible refine wpAny_holding ?_
  refine wpAny_bind (find_nested (s := hsh s k) hu hk h8 ho hd P hn ?_ ?_)
  · intro hno
    exact wpAny_bind (wpAny_rule (wpAny_updateDictKeys (hz := by simpa using hz) (s := hsh s k) ho hd (hnone hno _ (.updK ho hc hd _ (by simp)) (Heap.SameBut.update ..))))
  · intro j hj
    exact wpAny_bind (wpAny_rule (wpAny_bind (wpAny_updateDict (s := hsh s k) ho hd (wpAny_point (hsome j hj _ (.upd ho hc hd _ (by simp)) (Heap.SameBut.update ..))))))
theorem dSetDefault_n {v : Value} {Q : Value → Shared → Prop} (hu : A.units + 8 < cLine) (hk : NestedIs s.heap k key) (h8 : k.depth ≤ 8) (D : DAt w s.heap d ks raw) (hz : raw.length ≤ sizeLine)
    (hnone : k ∉ ks → ∀ h', DictRaw d (raw ++ [⟨k.hash w, key, v⟩]) h' → Heap.SameBut d s.heap h' → Q v { s with heap := h', toks := s.toks + k.draws })
    (hsome : ∀ (j : Nat) e, ks[j]? = some k → raw[j]? = some e → Q e.val (hsh s k)) : wpAny (model prog w) A (dictSetDefault d key v) Q E s := by
  obtain ⟨o, es, ep, ho, hc, hd, rfl, P, hn⟩ := D
  unfold dictSetDefault
  try with_reducible refine wpAny_holding ?_
  refine wpAny_bind (pyHash_key k key A s _ hk (by omega) ?_)
  refine wpAny_bind (find_nested (s := hsh s k) hu hk h8 ho hd P hn ?_ ?_)
  · intro hno
    exact wpAny_bind (wpAny_rule (wpAny_bind (wpAny_updateDictKeys (hz := by simpa using hz) (s := hsh s k) ho hd (wpAny_pure (hnone hno _ (.updK ho hc hd _ (by simp)) (Heap.SameBut.update ..))))))
  · intro j hj
    obtain ⟨e, he, x⟩ := Paired.at P hj
    refine wpAny_bind (wpAny_dictEntries (s := hsh s k) ho hd ?_)
    rw [show es[j]? = some e by rw [← Array.getElem?_toList]; exact he]
    exact wpAny_bind (wpAny_rule (wpAny_pure (hsome j e hj he)))
theorem takeOut_n {Q : Option DictEntry → Shared → Prop} (hu : A.units + 8 < cLine) (hk : NestedIs s.heap k key) (h8 : k.depth ≤ 8) (D : DAt w s.heap d ks raw) (hz : raw.length ≤ sizeLine)
    (hnone : k ∉ ks → Q none (hsh s k))
    (hsome : ∀ (j : Nat) e, ks[j]? = some k → raw[j]? = some e → ∀ h', DictRaw d (raw.eraseIdx j) h' → Heap.SameBut d s.heap h' → Q (some e) { s with heap := h', toks := s.toks + k.draws }) : wpAny (model prog w) A (Builtin.Dict.takeOut d key) Q E s := by
  obtain ⟨o, es, ep, ho, hc, hd, rfl, P, hn⟩ := D
  unfold Builtin.Dict.takeOut
  try with_reducible refine wpAny_holding ?_
  refine wpAny_bind (pyHash_key k key A s _ hk (by omega) ?_)
  refine wpAny_bind (find_nested (s := hsh s k) hu hk h8 ho hd P hn ?_ ?_)
  · intro hno
    exact wpAny_pure (hnone hno)
  · intro j hj
    obtain ⟨e, he, x⟩ := Paired.at P hj
    refine wpAny_bind (wpAny_dictEntries (s := hsh s k) ho hd ?_)
    rw [show es[j]? = some e by rw [← Array.getElem?_toList]; exact he]
    exact wpAny_bind (wpAny_updateDictKeys (hz := by simpa using hz) (s := hsh s k) ho hd (wpAny_pure (hsome j e hj he _ (.updK ho hc hd _ (by obtain ⟨l⟩ := es; simp)) (Heap.SameBut.update ..))))

/-! ### in, d[k], d[k] = v -/
theorem dIn_n {Q : Value → Shared → Prop} (hu : A.units + 9 < cLine) (hk : NestedIs s.heap k key) (h8 : k.depth ≤ 8) (hd : (d == sysModules) = false) (D : DAt w s.heap d ks raw)
    (h : Q (.bool (decide (k ∈ ks))) (hsh s k)) : wpAny (model prog w) A (compareOp .In key (.ref d)) Q E s := by
  show wpAny _ _ (do return .bool (← contains (.ref d) key)) Q E s
  refine wpAny_bind ?_
  unfold contains
  try with_reducible refine wpAny_holding ?_
  refine wpAny_bind (wpAny_specialOf D.typeIs slot_dict_contains.lookup ?_)
  show wpAny _ _ (if (some (Value.builtin "dict.__contains__") == some Value.none) = true then _ else _) _ E s
  rw [if_neg (by rw [beq_builtin_none]; exact Bool.false_ne_true)]
  refine wpAny_bind (wpAny_callSpecialUnlessNone?_slot (name := Str.ofString "__contains__") D.typeIs slot_dict_contains
    (wpAny_call_entry slot_dict_contains D.typeIs entry_dict_contains ?_ (args_dict_contains _ _)))
  show wpAny _ _ (dictGet d key >>= _) _ _ s
  refine wpAny_bind (dGet_n (by rw [units_in1]; omega) hk h8 D (fun hno => ?_) fun j e hj he => ?_)
  · rw [decide_eq_false hno] at h
    show wpAny _ _ (Builtin.Dict.pendingKey? d key >>= _) _ _ _
    exact wpAny_bind (wpAny_pendingKey_other hd (wpAny_pure ⟨_, rfl, wpAny_truthy_bool (wpAny_pure h)⟩))
  · rw [decide_eq_true (List.mem_of_getElem? hj)] at h
    show wpAny _ _ (ret (.bool true)) _ _ _
    exact wpAny_pure ⟨_, rfl, wpAny_truthy_bool (wpAny_pure h)⟩
theorem dNotIn_n {Q : Value → Shared → Prop} (hu : A.units + 9 < cLine) (hk : NestedIs s.heap k key) (h8 : k.depth ≤ 8) (hd : (d == sysModules) = false) (D : DAt w s.heap d ks raw)
    (h : Q (.bool (!decide (k ∈ ks))) (hsh s k)) : wpAny (model prog w) A (compareOp .NotIn key (.ref d)) Q E s := by
  show wpAny _ _ (do return .bool (!(← contains (.ref d) key))) Q E s
  refine wpAny_bind ?_
  unfold contains
  try with_reducible refine wpAny_holding ?_
  refine wpAny_bind (wpAny_specialOf D.typeIs slot_dict_contains.lookup ?_)
  show wpAny _ _ (if (some (Value.builtin "dict.__contains__") == some Value.none) = true then _ else _) _ E s
  rw [if_neg (by rw [beq_builtin_none]; exact Bool.false_ne_true)]
  refine wpAny_bind (wpAny_callSpecialUnlessNone?_slot (name := Str.ofString "__contains__") D.typeIs slot_dict_contains
    (wpAny_call_entry slot_dict_contains D.typeIs entry_dict_contains ?_ (args_dict_contains _ _)))
  show wpAny _ _ (dictGet d key >>= _) _ _ s
  refine wpAny_bind (dGet_n (by rw [units_in1]; omega) hk h8 D (fun hno => ?_) fun j e hj he => ?_)
  · rw [decide_eq_false hno] at h
    show wpAny _ _ (Builtin.Dict.pendingKey? d key >>= _) _ _ _
    exact wpAny_bind (wpAny_pendingKey_other hd (wpAny_pure ⟨_, rfl, wpAny_truthy_bool (wpAny_pure h)⟩))
  · rw [decide_eq_true (List.mem_of_getElem? hj)] at h
    show wpAny _ _ (ret (.bool true)) _ _ _
    exact wpAny_pure ⟨_, rfl, wpAny_truthy_bool (wpAny_pure h)⟩
theorem dItem_n {Q : Value → Shared → Prop} {j : Nat} {e : DictEntry} (hu : A.units + 9 < cLine) (hk : NestedIs s.heap k key) (h8 : k.depth ≤ 8) (D : DAt w s.heap d ks raw) (hj : ks[j]? = some k) (he : raw[j]? = some e)
    (h : Q e.val (hsh s k)) : wpAny (model prog w) A (getItem (.ref d) key) Q E s := by
  unfold getItem
  try with_reducible refine wpAny_holding ?_
  refine wpAny_bind (wpAny_sequenceKey D.typeIs (by decide) ?_)
  refine wpAny_bind (wpAny_callSpecial?_slot (name := Str.ofString "__getitem__") D.typeIs slot_dict_getitem
    (wpAny_call_entry slot_dict_getitem D.typeIs entry_dict_getitem ?_ (args_dict_getitem _ _)))
  show wpAny _ _ (dictGet d key >>= _) _ _ s
  obtain ⟨_, _, _, _, _, _, _, _, hn⟩ := id D
  refine wpAny_bind (dGet_n (by rw [units_in1]; omega) hk h8 D (fun hno => absurd (List.mem_of_getElem? hj) hno) fun j' e' hj' he' => ?_)
  rw [nat_unique hn hj hj'] at he
  rw [he] at he'
  cases he'
  exact wpAny_pure ⟨e.val, rfl, wpAny_pure h⟩
theorem dSetItem_n {v : Value} {Q : Unit → Shared → Prop} (hu : A.units + 9 < cLine) (hk : NestedIs s.heap k key) (h8 : k.depth ≤ 8) (D : DAt w s.heap d ks raw) (hz : raw.length ≤ sizeLine)
    (hnone : k ∉ ks → ∀ h', DictRaw d (raw ++ [⟨k.hash w, key, v⟩]) h' → Heap.SameBut d s.heap h' → Q () { s with heap := h', toks := s.toks + k.draws })
    (hsome : ∀ (j : Nat), ks[j]? = some k → ∀ h', DictRaw d (raw.modify j fun e => { e with val := v }) h' → Heap.SameBut d s.heap h' → Q () { s with heap := h', toks := s.toks + k.draws }) : wpAny (model prog w) A (setItem (.ref d) key v) Q E s := by
  unfold setItem
  try with_reducible refine wpAny_holding ?_
  refine wpAny_bind (wpAny_sequenceKey D.typeIs (by decide) ?_)
  refine wpAny_bind (wpAny_callSpecial?_slot (name := Str.ofString "__setitem__") D.typeIs slot_dict_setitem
    (wpAny_call_entry slot_dict_setitem D.typeIs entry_dict_setitem ?_ (args_dict_setitem _ _ _)))
  show wpAny _ _ (Builtin.Dict.notOrdered "__setitem__" ⟨[.ref d, key, v], []⟩ >>= _) _ _ s
  refine wpAny_bind (wpAny_notOrdered_dict D.typeIs ?_)
  show wpAny _ _ (dictSet d key v >>= _) _ _ s
  exact wpAny_bind (dSet_n (by rw [units_in1]; omega) hk h8 D hz (fun hno h' a b => wpAny_pure ⟨.none, rfl, wpAny_pure (hnone hno h' a b)⟩) fun j hj h' a b => wpAny_pure ⟨.none, rfl, wpAny_pure (hsome j hj h' a b)⟩)

/-! ### get, setdefault, pop -/
theorem callGet_n {dflt : Value} {Q : Value → Shared → Prop} (hu : A.units + 9 < cLine) (hk : NestedIs s.heap k key) (h8 : k.depth ≤ 8) (hd : (d == sysModules) = false) (D : DAt w s.heap d ks raw)
    (hnone : k ∉ ks → Q dflt (hsh s k)) (hsome : ∀ (j : Nat) e, ks[j]? = some k → raw[j]? = some e → Q e.val (hsh s k)) : wpAny (model prog w) A (call (.builtin "dict.get") [.ref d, key, dflt]) Q E s := by
  refine call_meetsIn F.slot_dict_get D.typeIs F.entry_dict_get (F.args_dict_get_3 _ _ _) (S := fun A R s' => s' = s ∧ A.in1.units + 8 < cLine ∧ (k ∉ ks → R (.ok (.ret dflt)) (hsh s k)) ∧ (∀ (j : Nat) e, ks[j]? = some k → raw[j]? = some e → R (.ok (.ret e.val)) (hsh s k))) (.of_wp fun A R s' h0 => ?_) ⟨rfl, by rw [units_in1]; omega, hnone, hsome⟩
  obtain ⟨es, hu', h1, h2⟩ := h0
  subst es
  show wpAny _ _ (dictGet d key >>= _) _ _ _
  refine wpAny_bind (dGet_n hu' hk h8 D (fun hno => ?_) fun j e hj he => ?_)
  · show wpAny _ _ (Builtin.Dict.missed d key >>= _) _ _ _
    exact wpAny_bind (wpAny_missed_other hd (wpAny_pure ⟨dflt, rfl, h1 hno⟩))
  · exact wpAny_pure ⟨e.val, rfl, h2 j e hj he⟩
theorem callSetDefault_n {v : Value} {Q : Value → Shared → Prop} (hu : A.units + 9 < cLine) (hk : NestedIs s.heap k key) (h8 : k.depth ≤ 8) (hd : (d == sysModules) = false) (D : DAt w s.heap d ks raw) (hz : raw.length ≤ sizeLine)
    (hnone : k ∉ ks → ∀ h', DictRaw d (raw ++ [⟨k.hash w, key, v⟩]) h' → Heap.SameBut d s.heap h' → Q v { s with heap := h', toks := s.toks + k.draws })
    (hsome : ∀ (j : Nat) e, ks[j]? = some k → raw[j]? = some e → Q e.val (hsh s k)) : wpAny (model prog w) A (call (.builtin "dict.setdefault") [.ref d, key, v]) Q E s := by
  refine call_meetsIn F.slot_dict_setdefault D.typeIs F.entry_dict_setdefault (F.args_dict_setdefault_3 _ _ _) (S := fun A R s' => s' = s ∧ A.in1.units + 8 < cLine ∧ (k ∉ ks → ∀ h', DictRaw d (raw ++ [⟨k.hash w, key, v⟩]) h' → Heap.SameBut d s.heap h' → R (.ok (.ret v)) { s with heap := h', toks := s.toks + k.draws }) ∧ (∀ (j : Nat) e, ks[j]? = some k → raw[j]? = some e → R (.ok (.ret e.val)) (hsh s k))) (.of_wp fun A R s' h0 => ?_) ⟨rfl, by rw [units_in1]; omega, hnone, hsome⟩
  obtain ⟨es, hu', h1, h2⟩ := h0
  subst es
  unfold Builtin.«dict.setdefault»
  refine wpAny_bind ?_
  unfold Builtin.Dict.keyAndDefault
  refine wpAny_bind (wpAny_notOrdered_dict D.typeIs ?_)
  show wpAny _ _ (pure (d, key, some v)) _ _ _
  refine wpAny_pure ?_
  show wpAny _ _ (if (d == sysModules) = true then _ else (dictSetDefault d key v >>= _)) _ _ _
  rw [if_neg (by rw [hd]; exact Bool.false_ne_true)]
  exact wpAny_bind (dSetDefault_n hu' hk h8 D hz (fun hno h' a b => wpAny_pure ⟨v, rfl, h1 hno h' a b⟩) fun j e hj he => wpAny_pure ⟨e.val, rfl, h2 j e hj he⟩)
theorem key_part {h : Heap} (hk : NestedIs h k key) (hn : ∀ a, key ≠ .ref a) : True := trivial
theorem callPop_n {Q : Value → Shared → Prop} {j : Nat} {e : DictEntry} {a : Addr} (ek : key = .ref a) (hu : A.units + 9 < cLine) (hk : NestedIs s.heap k key) (h8 : k.depth ≤ 8) (hd : (d == sysModules) = false) (D : DAt w s.heap d ks raw) (hz : raw.length ≤ sizeLine) (hj : ks[j]? = some k) (he : raw[j]? = some e)
    (h : ∀ h', DictRaw d (raw.eraseIdx j) h' → Heap.SameBut d s.heap h' → Q e.val { s with heap := h', toks := s.toks + k.draws }) : wpAny (model prog w) A (call (.builtin "dict.pop") [.ref d, key]) Q E s := by
  refine call_meetsIn F.slot_dict_pop D.typeIs F.entry_dict_pop (F.args_dict_pop_2 _ _) (S := fun A R s' => s' = s ∧ A.in1.units + 8 < cLine ∧ (∀ h', DictRaw d (raw.eraseIdx j) h' → Heap.SameBut d s.heap h' → R (.ok (.ret e.val)) { s with heap := h', toks := s.toks + k.draws })) (.of_wp fun A R s' h0 => ?_) ⟨rfl, by rw [units_in1]; omega, h⟩
  obtain ⟨es', hu', h1⟩ := h0
  subst es'
  obtain ⟨o, es, ep, ho, hc, hdat, hes, P, hn⟩ := id D
  unfold Builtin.«dict.pop»
  refine wpAny_bind ?_
  unfold Builtin.Dict.keyAndDefault
  refine wpAny_bind (wpAny_notOrdered_dict D.typeIs ?_)
  show wpAny _ _ (pure (d, key, none)) _ _ _
  refine wpAny_pure ?_
  have hemp : ¬ es.isEmpty = true := by
    intro z
    have h0 : es.size = 0 := by simpa using z
    have : raw = [] := by rw [← hes]; simpa using z
    rw [this] at he
    simp at he
  subst ek
  simp only [keyPart, Option.isSome_none, Bool.false_eq_true, if_false]
  refine wpAny_bind (wpAny_dictEntries ho hdat (wpAny_bind (wpAny_pure ?_)))
  rw [if_neg hemp]
  refine wpAny_bind (takeOut_n hu' hk h8 D hz (fun hno => absurd (List.mem_of_getElem? hj) hno) fun j' e' hj' he' h' a' b => ?_)
  rw [← nat_unique hn hj hj'] at he' a'
  rw [he] at he'
  cases he'
  simp only [Option.isNone_some, Bool.false_eq_true, if_false]
  exact wpAny_bind (wpAny_letGo (wpAny_pure ⟨e.val, rfl, h1 h' a' b⟩))
end
end DD

/-! D-layer 10: dicts, the rules -/
namespace DD
open PySem PySem.Spec PyProof.Rows L2 SeqAt
def dgetE (kd : NestedKey) : List (D × D) → Option D
  | [] => none
  | p :: r => if keyD p.1 = kd then some p.2 else dgetE kd r
def dputE (k v : D) : List (D × D) → List (D × D)
  | [] => [(k, v)]
  | p :: r => if keyD p.1 = keyD k then (p.1, v) :: r else p :: dputE k v r
def ddelE (kd : NestedKey) : List (D × D) → List (D × D)
  | [] => []
  | p :: r => if keyD p.1 = kd then r else p :: ddelE kd r
def keysE (es : List (D × D)) : List NestedKey := es.map fun p => keyD p.1
theorem dget_none {kd : NestedKey} : ∀ {es : List (D × D)}, dgetE kd es = none ↔ kd ∉ keysE es
  | [] => by simp [dgetE, keysE]
  | p :: r => by
    have ih := dget_none (kd := kd) (es := r)
    unfold dgetE
    by_cases h : keyD p.1 = kd
    · rw [if_pos h]
      simp [keysE, h]
    · rw [if_neg h, ih]
      simp [keysE]
      exact fun _ z => h z.symm
theorem dget_idx {kd : NestedKey} {d : D} : ∀ {es : List (D × D)}, dgetE kd es = some d → ∃ (j : Nat) (p : D × D), es[j]? = some p ∧ keyD p.1 = kd ∧ p.2 = d ∧
    (∀ k v, keyD k = kd → dputE k v es = es.modify j fun q => (q.1, v)) ∧ ddelE kd es = es.eraseIdx j
  | [], h => by cases h
  | p :: r, h => by
    unfold dgetE at h
    by_cases z : keyD p.1 = kd
    · rw [if_pos z] at h
      cases h
      refine ⟨0, p, rfl, z, rfl, fun k v e => ?_, ?_⟩
      · unfold dputE
        rw [if_pos (z.trans e.symm)]
        rfl
      · unfold ddelE
        rw [if_pos z]
        rfl
    · rw [if_neg z] at h
      obtain ⟨j, q, h1, h2, h3, h4, h5⟩ := dget_idx h
      refine ⟨j + 1, q, by simpa using h1, h2, h3, fun k v e => ?_, ?_⟩
      · unfold dputE
        rw [if_neg (fun y => z (y.trans e)), h4 k v e]
        rfl
      · unfold ddelE
        rw [if_neg z, h5]
        rfl
theorem dput_new {k v : D} : ∀ {es : List (D × D)}, keyD k ∉ keysE es → dputE k v es = es ++ [(k, v)]
  | [], _ => rfl
  | p :: r, h => by
    simp only [keysE, List.map_cons, List.mem_cons, not_or] at h
    unfold dputE
    rw [if_neg (fun z => h.1 z.symm), dput_new (es := r) h.2]
    rfl
theorem keys_modify {v : D} : ∀ {es : List (D × D)} {j : Nat}, keysE (es.modify j fun q => (q.1, v)) = keysE es
  | [], 0 => rfl
  | [], _ + 1 => rfl
  | _ :: _, 0 => rfl
  | p :: r, j + 1 => by
    show keyD p.1 :: keysE (r.modify j fun q => (q.1, v)) = _
    rw [keys_modify]
    rfl
theorem keys_erase : ∀ {es : List (D × D)} {j : Nat}, keysE (es.eraseIdx j) = (keysE es).eraseIdx j
  | [], j => by simp [keysE]
  | _ :: _, 0 => rfl
  | p :: r, j + 1 => by
    show keyD p.1 :: keysE (r.eraseIdx j) = keyD p.1 :: (keysE r).eraseIdx j
    rw [keys_erase]
theorem Paired.modify {α β : Type} {F : α → β → Prop} {f : α → α} {g : β → β} (h : ∀ a b, F a b → F (f a) (g b)) : ∀ {l₁ : List α} {l₂ : List β} (j : Nat), Paired F l₁ l₂ → Paired F (l₁.modify j f) (l₂.modify j g)
  | _, _, 0, .nil => .nil
  | _, _, _ + 1, .nil => .nil
  | _, _, 0, .cons a t => .cons (h _ _ a) t
  | _, _, j + 1, .cons a t => .cons a (Paired.modify h j t)
theorem Paired.erase {α β : Type} {F : α → β → Prop} : ∀ {l₁ : List α} {l₂ : List β} (j : Nat), Paired F l₁ l₂ → Paired F (l₁.eraseIdx j) (l₂.eraseIdx j)
  | _, _, _, .nil => .nil
  | _, _, 0, .cons _ t => t
  | _, _, j + 1, .cons a t => .cons a (Paired.erase j t)
theorem Paired.app {α β : Type} {F : α → β → Prop} : ∀ {l₁ k₁ : List α} {l₂ k₂ : List β}, Paired F l₁ l₂ → Paired F k₁ k₂ → Paired F (l₁ ++ k₁) (l₂ ++ k₂)
  | _, _, _, _, .nil, s => s
  | _, _, _, _, .cons a t, s => .cons a (Paired.app t s)
section
variable {X : Cx} {pins : List (Addr × Obj)} {σ : L2.St} {H : Hp} {s : Shared} {G : DG} {a : Addr} {es : List (D × D)}
theorem dat_of (I : Inv X pins σ H s) (A : AbsG X.K X.w H G) (eg : G a = some (.dct es)) :
    ∃ raw, H a = some (dictO a raw) ∧ Paired (EntR X.K X.w H) es raw ∧ DAt X.w s.heap a (keysE es) raw ∧ (a == sysModules) = false ∧ (keysE es).Nodup := by
  obtain ⟨ns, nd, raw, hr, P⟩ := A a _ eg
  obtain ⟨⟨o, es', ep, e1, e2, e3, e4⟩, hst⟩ := I.hok a _ hr
  refine ⟨raw, hr, P, ⟨o, es', ep, e1, e2, e3, e4, ?_, nd⟩, ns, nd⟩
  clear e4 hr nd hst eg
  induction P with
  | nil => exact .nil
  | cons x t ih =>
    obtain ⟨v, r1, r2⟩ := x.key
    exact .cons ⟨Den.nested I _ r2 r1 x.flat, x.hash, x.shallow⟩ ih
/-- a dict is written -/
theorem dict_write {h' : Heap} {t' : Nat} {raw raw' : List DictEntry} (I : Inv X pins σ H s) (e : H a = some (dictO a raw)) (hs : Heap.SameBut a s.heap h') (hr : DictRaw a raw' h') : Inv X pins σ (upd H a (dictO a raw')) { s with heap := h', toks := t' } := by
  refine d_write I (by rw [e]; exact trivial) hs ?_ ?_
  · obtain ⟨o, _, _, e1, _⟩ := hr
    exact ⟨o, e1⟩
  · refine ⟨hr, ?_, ?_⟩
    · obtain ⟨o, _, _, e1, _⟩ := hr
      exact ⟨o, e1⟩
    · rintro h1 h2 ⟨o, es, ep, e1, e2⟩ k
      exact ⟨o, es, ep, k o e1, e2⟩
theorem EntR.mono {K : PySem.W.Frag} {w : World} {H H' : Hp} {p : D × D} {x : DictEntry} (z : EntR K w H p x) (k : Kp K H H') : EntR K w H' p x :=
  ⟨z.hash, let ⟨v, r1, r2⟩ := z.key; ⟨v, r1, r2.mono k⟩, let ⟨v, r1, r2⟩ := z.val; ⟨v, r1, r2.mono k⟩, z.flat, z.shallow⟩
/-- .. at D level -/
theorem step_dict {K : PySem.W.Frag} {w : World} {es' : List (D × D)} {raw' : List DictEntry} (A : AbsG K w H G) (eg : G a = some (.dct es)) (hns : (a == sysModules) = false) (nd : (keysE es').Nodup) (P : Paired (EntR K w H) es' raw') :
    Step K w H G (upd H a (dictO a raw')) (gup G a (.dct es')) := by
  have kw : Kp K H (upd H a (dictO a raw')) := .write A eg
  exact Step.write (o := .dct es') (u := dictO a raw') A eg ⟨hns, nd, raw', upd_same, Paired.mapP P fun p x z => z.mono kw⟩
/-- what a key must be -/
def keyOk (d : D) : Prop := flat d = true ∧ (keyD d).depth ≤ 8
theorem idx_key {j : Nat} {p : D × D} (h : es[j]? = some p) : (keysE es)[j]? = some (keyD p.1) := by
  unfold keysE
  rw [List.getElem?_map, h]
  rfl
theorem nodup_put {k v : D} (nd : (keysE es).Nodup) : (keysE (dputE k v es)).Nodup := by
  cases e : dgetE (keyD k) es with
  | none =>
    have hn := dget_none.mp e
    rw [dput_new hn]
    unfold keysE at *
    rw [List.map_append, List.nodup_append]
    refine ⟨nd, by simp, ?_⟩
    intro x hx y hy
    simp only [List.map_cons, List.map_nil, List.mem_singleton] at hy
    subst hy
    exact fun e => hn (e ▸ hx)
  | some d =>
    obtain ⟨j, p, h1, h2, h3, h4, h5⟩ := dget_idx e
    rw [h4 k v rfl, keys_modify]
    exact nd
theorem len_put {k v : D} : ∀ {es : List (D × D)}, (dputE k v es).length ≤ es.length + 1
  | [] => Nat.le_refl _
  | p :: r => by
    unfold dputE
    split
    · simp
    · have := len_put (k := k) (v := v) (es := r)
      simp only [List.length_cons]
      omega
/-- the entries behind d[k] = v -/
theorem put_raw {K : PySem.W.Frag} {w : World} {raw : List DictEntry} {k v : D} {kv vv : Value} (P : Paired (EntR K w H) es raw) (ok : keyOk k) (hk : ∃ x, RelV x kv ∧ Den K H k x) (hv : ∃ x, RelV x vv ∧ Den K H v x) :
    (keyD k ∉ keysE es → Paired (EntR K w H) (dputE k v es) (raw ++ [⟨(keyD k).hash w, kv, vv⟩])) ∧
    (∀ j, (keysE es).Nodup → (keysE es)[j]? = some (keyD k) → Paired (EntR K w H) (dputE k v es) (raw.modify j fun e => { e with val := vv })) := by
  refine ⟨fun hn => ?_, fun j nd hj => ?_⟩
  · rw [dput_new hn]
    exact Paired.app P (.cons ⟨rfl, hk, hv, ok.1, ok.2⟩ .nil)
  · cases e : dgetE (keyD k) es with
    | none => exact absurd (List.mem_of_getElem? hj) (dget_none.mp e)
    | some d =>
      obtain ⟨j', p, h1, h2, h3, h4, h5⟩ := dget_idx e
      have e1 := idx_key h1
      rw [h2] at e1
      rw [nat_unique nd hj e1, h4 k v rfl]
      exact Paired.modify (fun p x z => ⟨z.hash, z.key, hv, z.flat, z.shallow⟩) j' P
end
section
variable {X : Cx}
/-! ### in, not in -/
def rInK : DR2 := fun x y G Q => match y with
  | .ref a => (match G a with
    | some (.dct es) => keyOk x ∧ Q (.bl (dgetE (keyD x) es).isSome) G
    | _ => False)
  | _ => False
theorem dec_mem {es : List (D × D)} {k : NestedKey} : decide (k ∈ keysE es) = (dgetE k es).isSome := by
  cases e : dgetE k es with
  | none => exact decide_eq_false (dget_none.mp e)
  | some d =>
    refine decide_eq_true ?_
    obtain ⟨j, p, h1, h2, _⟩ := dget_idx e
    have := idx_key h1
    rw [h2] at this
    exact List.mem_of_getElem? this
theorem op_inKD (hu : X.A.units + 9 < cLine) : OpD X (compareOp .In) rInK := by
  intro pins s σ H x y v u Q I rx ry ⟨d, e, G, R, A, r1, r2, q, k⟩
  unfold rInK at q
  split at q
  · rename_i a
    split at q
    · rename_i es eg
      cases r2
      cases ry
      obtain ⟨raw, hr, P, D0, ns, nd⟩ := dat_of I A eg
      refine dIn_n hu (Den.nested I _ r1 rx q.1.1) q.1.2 ns D0 ⟨.bl _, H, I.tok _, rfl, ?_⟩
      rw [dec_mem]
      exact k _ G _ H q.2 (.refl A) (.bl _)
    · exact q.elim
  · exact q.elim
theorem op_notInKD (hu : X.A.units + 9 < cLine) : OpD X (compareOp .NotIn) (neg rInK) := by
  intro pins s σ H x y v u Q I rx ry ⟨d, e, G, R, A, r1, r2, q, k⟩
  unfold neg rInK at q
  split at q
  · rename_i a
    split at q
    · rename_i es eg
      cases r2
      cases ry
      obtain ⟨raw, hr, P, D0, ns, nd⟩ := dat_of I A eg
      refine dNotIn_n hu (Den.nested I _ r1 rx q.1.1) q.1.2 ns D0 ⟨.bl _, H, I.tok _, rfl, ?_⟩
      rw [dec_mem]
      exact k _ G _ H q.2 (.refl A) (.bl _)
    · exact q.elim
  · exact q.elim
/-- x in y -/
def rIn : DR2 := fun x y G Q => match y with
  | .tup ds => ob (res G x) fun p => ob (ress G ds) fun qs => (dpP p ≤ 60 ∨ dpPs qs ≤ 60) ∧ Q (.bl (qs.any fun q => eqP q p)) G
  | .ref a => (match G a with
    | some (.lst ds) => ob (res G x) fun p => ob (ress G ds) fun qs => (dpP p ≤ 60 ∨ dpPs qs ≤ 60) ∧ Q (.bl (qs.any fun q => eqP q p)) G
    | some (.dct es) => keyOk x ∧ Q (.bl (dgetE (keyD x) es).isSome) G
    | _ => False)
  | .str z => (match x with
    | .str c => c.length = 1 ∧ Q (.bl (decide (c.cps.getD 0 0 ∈ z.cps.toList))) G
    | _ => False)
  | _ => False
theorem rIn_or : ∀ x y G Q, rIn x y G Q → rInS x y G Q ∨ rInK x y G Q := by
  intro x y G Q q
  unfold rIn at q
  split at q
  · exact .inl q
  · rename_i a
    split at q
    · rename_i ds eg
      refine .inl ?_
      unfold rInS
      dsimp only
      rw [eg]
      exact q
    · rename_i es eg
      refine .inr ?_
      unfold rInK
      dsimp only
      rw [eg]
      exact q
    · exact q.elim
  · exact .inl q
  · exact q.elim
theorem op_inD (hu : X.A.units + 64 < cLine) : OpD X (compareOp .In) rIn := opD_imp (opD_or (op_inSD hu) (op_inKD (by omega))) rIn_or
def rNotIn : DR2 := neg rIn
theorem op_notInD (hu : X.A.units + 64 < cLine) : OpD X (compareOp .NotIn) rNotIn := opD_imp (opD_or (op_notInSD hu) (op_notInKD (by omega))) fun x y G Q q => rIn_or x y G _ q

/-! ### d[k] -/
def rIxK : DR2 := fun x y G Q => match x with
  | .ref a => (match G a with
    | some (.dct es) => keyOk y ∧ ob (dgetE (keyD y) es) fun d => Q d G
    | _ => False)
  | _ => False
theorem ix_KD (hu : X.A.units + 9 < cLine) : IxD X rIxK := by
  intro v0 s0 pins s σ H x y v u Q I rx ry ⟨d, e, G, R, A, r1, r2, q, k⟩ hs
  unfold rIxK at q
  split at q
  · rename_i a
    split at q
    · rename_i es eg
      cases r1
      cases rx
      obtain ⟨raw, hr, P, D0, ns, nd⟩ := dat_of I A eg
      obtain ⟨d', e1, q1⟩ := ob_iff.mp q.2
      obtain ⟨j, p, h1, h2, h3, _⟩ := dget_idx e1
      obtain ⟨en, he, xe⟩ := Paired.at P h1
      obtain ⟨vv, rv, dv⟩ := xe.val
      have hkj := idx_key h1
      rw [h2] at hkj
      rw [h3] at dv
      exact tail_any D0.typeIs slot_dict_getitem.lookup (dItem_n hu (Den.nested I _ r2 ry q.1.1) q.1.2 D0 hkj he ⟨vv, H, I.tok _, rv, k _ G _ H q1 (.refl A) dv⟩) hs
    · exact q.elim
  · exact q.elim
/-- x[y] -/
def rIx : DR2 := fun d e G Q => match d with
  | .str z => (match e with | .int i => ob (atI z.cps.toList i) fun c => Q (.str ⟨#[c]⟩) G | _ => False)
  | .tup ds => (match e with | .int i => ob (atI ds i) fun d => Q d G | _ => False)
  | .scr ds => (match e with | .int i => ob (atI ds i) fun d => Q d G | _ => False)
  | .ref a => (match G a with
    | some (.lst ds) => (match e with | .int i => ob (atI ds i) fun d => Q d G | _ => False)
    | some (.dct es) => keyOk e ∧ ob (dgetE (keyD e) es) fun d => Q d G
    | _ => False)
  | _ => False
theorem ix_D (hu : X.A.units + 64 < cLine) : IxD X rIx := by
  refine ixD_imp (ixD_or ix_SD (ix_KD (by omega))) fun d e G Q q => ?_
  unfold rIx at q
  split at q
  · split at q
    · exact .inl q
    · exact q.elim
  · split at q
    · exact .inl q
    · exact q.elim
  · split at q
    · exact .inl q
    · exact q.elim
  · rename_i a
    split at q
    · rename_i ds eg
      split at q
      · refine .inl ?_
        unfold rIxS
        dsimp only
        rw [eg]
        exact q
      · exact q.elim
    · rename_i es eg
      refine .inr ?_
      unfold rIxK
      dsimp only
      rw [eg]
      exact q
    · exact q.elim
  · exact q.elim

/-! ### x[y] = z -/
def rPutK : DRS := fun o i v G Q => match o with
  | .ref a => (match G a with
    | some (.dct es) => (keyOk i ∧ es.length < 16777216) ∧ Q (gup G a (.dct (dputE i v es)))
    | _ => False)
  | _ => False
theorem len_raw {K : PySem.W.Frag} {w : World} {H : Hp} {es : List (D × D)} {raw : List DictEntry} (P : Paired (EntR K w H) es raw) : raw.length = es.length := (Paired.len P).symm
theorem set_KD (hu : X.A.units + 9 < cLine) : SetD X rPutK := by
  intro pins s σ H o i x ov iv u Q I ro ri rx ⟨d1, d2, d3, G, R, A, r1, r2, r3, q, k⟩
  have hz : sizeLine = 16777216 := sizeLine_eq
  unfold rPutK at q
  split at q
  · rename_i a
    split at q
    · rename_i es eg
      cases r1
      cases ro
      obtain ⟨raw, hr, P, D0, ns, nd⟩ := dat_of I A eg
      have pr := put_raw P q.1.1 ⟨i, ri, r2⟩ ⟨x, rx, r3⟩
      refine dSetItem_n hu (Den.nested I _ r2 ri q.1.1.1) q.1.1.2 D0 (by rw [len_raw P]; omega) (fun hno h' a' b => ⟨_, dict_write I hr b a', ?_⟩) fun j hj h' a' b => ⟨_, dict_write I hr b a', ?_⟩
      · exact k _ _ q.2 (step_dict A eg ns (nodup_put nd) (pr.1 hno))
      · exact k _ _ q.2 (step_dict A eg ns (nodup_put nd) (pr.2 j nd hj))
    · exact q.elim
  · exact q.elim

/-! ### get, setdefault, pop -/
def rGet : DRM := fun o ds G Q => match o, ds with
  | .ref a, [i, v] => (match G a with
    | some (.dct es) => keyOk i ∧ Q ((dgetE (keyD i) es).getD v) G
    | _ => False)
  | _, _ => False
theorem mt_get (hu : X.A.units + 9 < cLine) : MtD X "dict.get" rGet := by
  intro pins s σ H x xs v us Q I rx rxs ⟨d, ds, G, R, A, r1, r2, q, k⟩
  unfold rGet at q
  split at q
  · rename_i a i vd
    split at q
    · rename_i es eg
      cases r1
      cases rx
      obtain ⟨x1, x2, rfl, d1, d2⟩ := r2.inv2
      cases rxs with
      | cons ra rt =>
      cases rt with
      | cons rb rt =>
      cases rt
      obtain ⟨raw, hr, P, D0, ns, nd⟩ := dat_of I A eg
      refine callGet_n hu (Den.nested I _ d1 ra q.1.1) q.1.2 ns D0 (fun hno => ?_) fun j e hj he => ?_
      · rw [dget_none.mpr hno] at q
        exact ⟨x2, H, I.tok _, rb, k _ G _ H q.2 (.refl A) d2⟩
      · cases ed : dgetE (keyD i) es with
        | none => exact absurd (List.mem_of_getElem? hj) (dget_none.mp ed)
        | some d' =>
          rw [ed] at q
          obtain ⟨j', p, h1, h2, h3, _⟩ := dget_idx ed
          obtain ⟨en, he', xe⟩ := Paired.at P h1
          have hkj := idx_key h1
          rw [h2] at hkj
          rw [nat_unique nd hj hkj, he'] at he
          cases he
          obtain ⟨vv, rv, dv⟩ := xe.val
          rw [h3] at dv
          exact ⟨vv, H, I.tok _, rv, k _ G _ H q.2 (.refl A) dv⟩
    · exact q.elim
  · exact q.elim
def rSetDef : DRM := fun o ds G Q => match o, ds with
  | .ref a, [i, v] => (match G a with
    | some (.dct es) => (keyOk i ∧ es.length < 16777216) ∧ (match dgetE (keyD i) es with
      | some d => Q d G
      | none => Q v (gup G a (.dct (es ++ [(i, v)]))))
    | _ => False)
  | _, _ => False
theorem mt_setdefault (hu : X.A.units + 9 < cLine) : MtD X "dict.setdefault" rSetDef := by
  intro pins s σ H x xs v us Q I rx rxs ⟨d, ds, G, R, A, r1, r2, q, k⟩
  have hz : sizeLine = 16777216 := sizeLine_eq
  unfold rSetDef at q
  split at q
  · rename_i a i vd
    split at q
    · rename_i es eg
      cases r1
      cases rx
      obtain ⟨x1, x2, rfl, d1, d2⟩ := r2.inv2
      cases rxs with
      | cons ra rt =>
      cases rt with
      | cons rb rt =>
      cases rt
      obtain ⟨raw, hr, P, D0, ns, nd⟩ := dat_of I A eg
      have pr := put_raw P q.1.1 ⟨x1, ra, d1⟩ ⟨x2, rb, d2⟩
      refine callSetDefault_n hu (Den.nested I _ d1 ra q.1.1.1) q.1.1.2 ns D0 (by rw [len_raw P]; omega) (fun hno h' a' b => ?_) fun j e hj he => ?_
      · have q2 := q.2
        rw [dget_none.mpr hno] at q2
        have st := step_dict A eg ns (nodup_put nd) (pr.1 hno)
        rw [dput_new hno] at st
        exact ⟨x2, _, dict_write I hr b a', rb, k _ _ _ _ q2 st (d2.mono (st.kp A))⟩
      · cases ed : dgetE (keyD i) es with
        | none => exact absurd (List.mem_of_getElem? hj) (dget_none.mp ed)
        | some d' =>
          have q2 := q.2
          rw [ed] at q2
          obtain ⟨j', p, h1, h2, h3, _⟩ := dget_idx ed
          obtain ⟨en, he', xe⟩ := Paired.at P h1
          have hkj := idx_key h1
          rw [h2] at hkj
          rw [nat_unique nd hj hkj, he'] at he
          cases he
          obtain ⟨vv, rv, dv⟩ := xe.val
          rw [h3] at dv
          exact ⟨vv, H, I.tok _, rv, k _ G _ H q2 (.refl A) dv⟩
    · exact q.elim
  · exact q.elim
def rPopK : DRM := fun o ds G Q => match o, ds with
  | .ref a, [i] => (match G a with
    | some (.dct es) => (keyOk i ∧ es.length < 16777216 ∧ ∃ ts, i = .tup ts) ∧ ob (dgetE (keyD i) es) fun d => Q d (gup G a (.dct (ddelE (keyD i) es)))
    | _ => False)
  | _, _ => False
theorem mt_popK (hu : X.A.units + 9 < cLine) : MtD X "dict.pop" rPopK := by
  intro pins s σ H x xs v us Q I rx rxs ⟨d, ds, G, R, A, r1, r2, q, k⟩
  have hz : sizeLine = 16777216 := sizeLine_eq
  unfold rPopK at q
  split at q
  · rename_i a i
    split at q
    · rename_i es eg
      obtain ⟨⟨ok, hl, ts, rfl⟩, q⟩ := q
      cases r1
      cases rx
      obtain ⟨x1, rfl, d1⟩ := r2.inv1
      cases rxs with
      | cons ra rt =>
      cases rt
      obtain ⟨raw, hr, P, D0, ns, nd⟩ := dat_of I A eg
      obtain ⟨d', ed, q⟩ := ob_iff.mp q
      obtain ⟨j, p, h1, h2, h3, _, h5⟩ := dget_idx ed
      obtain ⟨en, he, xe⟩ := Paired.at P h1
      have hkj := idx_key h1
      rw [h2] at hkj
      obtain ⟨vv, rv, dv⟩ := xe.val
      rw [h3] at dv
      have nk := Den.nested I _ d1 ra ok.1
      rename_i w1 _
      have er : ∃ b, w1 = Value.ref b := by
        cases d1
        exact ⟨_, ra⟩
      obtain ⟨b, er⟩ := er
      refine callPop_n er hu nk ok.2 ns D0 (by rw [len_raw P]; omega) hkj he fun h' a' b' => ?_
      have nd' : (keysE (ddelE (keyD (.tup ts)) es)).Nodup := by
        rw [h5, keys_erase]
        exact nd.sublist (List.eraseIdx_sublist _ _)
      have st := step_dict A eg ns nd' (by rw [h5]; exact Paired.erase j P)
      exact ⟨vv, _, dict_write I hr b' a', rv, k _ _ _ _ q st (dv.mono (st.kp A))⟩
    · exact q.elim
  · exact q.elim

/-! ### {} -/
def dDct0 : DTE := fun _ G Q => ∀ p, G p = none → Q (.ref p) (gup G p (.dct []))
theorem ext_ok {P : Program} {w : World} {H : Hp} {h : Heap} {a : Addr} {raw : List DictEntry} (hr : DictRaw a raw h) : ObjOk P w H h a (dictO a raw) := by
  refine ⟨hr, ?_, ?_⟩
  · obtain ⟨o, _, _, e1, _⟩ := hr
    exact ⟨o, e1⟩
  · rintro h1 h2 ⟨o, es, ep, e1, e2⟩ k
    exact ⟨o, es, ep, k o e1, e2⟩
theorem pe_dnewX {pos : Pos} : PE X (.Dict [] [] pos) (fun _ H Q => ∀ p, H p = none → (p == sysModules) = false → Q (.ref p) (upd H p (dictO p []))) := ⟨fun pins s σ H Q I h =>
  wpAny_Dict_empty ⟨.ref s.heap.objs.size, _, I.laid (a := s.heap.objs.size) (o := dictO s.heap.objs.size []) (t' := s.toks) (fun _ _ q => Heap.get?_push_of_some _ q) (Nat.le_refl _)
    (ext_ok ⟨_, #[], 0, Heap.get?_push_size _ rfl, ⟨rfl, rfl, rfl⟩, rfl, rfl⟩), rfl, h _ (I.hok.fresh (Nat.le_refl _)) (beq_eq_false_iff_ne.mpr (Ne.symm (Nat.ne_of_lt I.big)))⟩⟩
theorem de_dct0 {ρ : Rg X.K X.w} {pos : Pos} : DE X ρ (.Dict [] [] pos) dDct0 := by
  refine L2.PE.imp pe_dnewX fun σ H Q ⟨δ, G, R, ab, ds, t, k⟩ => ?_
  intro p hp hns
  exact k _ _ _ _ (t p (ab.1.none hp)) (Step.alloc (o := .dct []) ab.1 hp ⟨hns, List.nodup_nil, [], upd_same, .nil⟩) (.ref p)
end
end DD

/-! D-layer 11: calls of built-ins, methods of lists and texts -/
namespace DD
open PySem PySem.Spec PyProof.Rows L2 SeqAt
section
variable {X : Cx}
theorem D.sz {pins : List (Addr × Obj)} {σ : L2.St} {H : Hp} {s : Shared} (I : Inv X pins σ H s) {a : Addr} {us : List V} (h : H a = some (.lst us)) : us.length ≤ sizeLine := by
  obtain ⟨_, _, _, z⟩ := I.list (.of h)
  exact z

/-! ### len -/
def rLen : DRC := fun ds G Q => match ds with
  | [.str z] => Q (.int z.length) G
  | [.tup xs] => Q (.int xs.length) G
  | [.scr xs] => Q (.int xs.length) G
  | [.ref a] => (match G a with
    | some (.lst xs) => Q (.int xs.length) G
    | _ => False)
  | _ => False
theorem call_lenD : CallD X (.builtin "len") rLen := by
  intro pins s σ H xs us Q I rx ⟨ds, G, R, A, r, q, k⟩
  unfold rLen at q
  split at q
  · obtain ⟨v, rfl, d1⟩ := r.inv1
    cases d1 with
    | str _ hz => exact call_len_str pins s σ H _ us Q I rx ⟨_, rfl, hz, k _ G _ H q (.refl A) (.int _)⟩
  · obtain ⟨v, rfl, d1⟩ := r.inv1
    cases d1 with
    | tup hq hl => exact call_len_seq pins s σ H _ us Q I rx ⟨_, _, rfl, .inr hq, by rw [← hl.length]; exact k _ G _ H q (.refl A) (.int _)⟩
  · obtain ⟨v, rfl, d1⟩ := r.inv1
    cases d1 with
    | scr hq hl => exact call_len_seq pins s σ H _ us Q I rx ⟨_, _, rfl, .inl hq.sq, by rw [← hl.length]; exact k _ G _ H q (.refl A) (.int _)⟩
  · obtain ⟨v, rfl, d1⟩ := r.inv1
    cases d1
    split at q
    · rename_i eg
      obtain ⟨ws, hw, hl⟩ := A _ _ eg
      exact call_len_seq pins s σ H _ us Q I rx ⟨_, _, rfl, .inl (.of hw), by rw [← hl.length]; exact k _ G _ H q (.refl A) (.int _)⟩
    · exact q.elim
  · exact q.elim

/-! ### isinstance -/
def Tys : List String := ["int", "str", "tuple", "bool", "list"]
def isiT (T : String) (x : D) (G : DG) : Option Bool := match x with
  | .non => some false
  | .bl _ => some (T == "bool" || T == "int")
  | .int _ => some (T == "int")
  | .str _ => some (T == "str")
  | .tup _ => some (T == "tuple")
  | .scr _ => some (T == "list")
  | .ref a => (match G a with
    | some (.lst _) => some (T == "list")
    | _ => none)
  | .ty _ => none
/-- x's own type as a value -/
inductive TyD (K : PySem.W.Frag) (H : Hp) (T : String) (b : Bool) (v : V) : Prop
  | mk (n : String) (h : TyX K H v (.type n)) (e : kitB n T = some b)
theorem kit_tab : ∀ T ∈ Tys, kitB "NoneType" T = some false ∧ kitB "bool" T = some (T == "bool" || T == "int") ∧ kitB "int" T = some (T == "int") ∧ kitB "str" T = some (T == "str") ∧ kitB "tuple" T = some (T == "tuple") ∧ kitB "list" T = some (T == "list") := by decide +kernel
theorem tyD_of {K : PySem.W.Frag} {w : World} {H : Hp} {G : DG} {x : D} {v : V} {T : String} {b : Bool} (A : AbsG K w H G) (r : Den K H x v) (hT : T ∈ Tys) (e : isiT T x G = some b) : TyD K H T b v := by
  obtain ⟨k1, k2, k3, k4, k5, k6⟩ := kit_tab T hT
  have lst : ∀ {a : Addr} {ws : List V}, SqL K H a ws → TyX K H (.ref a) (.type "list") := by
    intro a ws h
    rcases h with (h | ⟨o, h⟩) | ⟨o, its, n, h1, h2, _⟩
    · exact .base (.lst h)
    · exact .base (.frz h)
    · exact .kList h1 h2
  have tup : ∀ {a : Addr} {ws : List V}, SqT K H a ws → TyX K H (.ref a) (.type "tuple") := by
    intro a ws h
    rcases h with (h | ⟨o, h⟩) | ⟨o, its, n, h1, h2, _⟩
    · exact .base (.tup h)
    · exact .fTuple h
    · exact .kTuple h1 h2
  cases r with
  | non => cases e; exact ⟨_, .base .non, k1⟩
  | bl y => cases e; exact ⟨_, .base (.bl y), k2⟩
  | int i => cases e; exact ⟨_, .base (.int i), k3⟩
  | str y h => cases e; exact ⟨_, .base (.str y), k4⟩
  | tup hq hl => cases e; exact ⟨_, tup hq, k5⟩
  | scr hq hl => cases e; exact ⟨_, lst hq.sq, k6⟩
  | ty n => cases e
  | ref a =>
    unfold isiT at e
    dsimp only at e
    split at e
    · rename_i ds eg
      cases e
      obtain ⟨ws, hw, hl⟩ := A a _ eg
      exact ⟨_, lst (.of hw), k6⟩
    · cases e
def isiAny (G : DG) (x : D) : List D → Option Bool
  | [] => some false
  | .ty T :: r => if T ∈ Tys then (match isiT T x G with
    | some true => some true
    | some false => isiAny G x r
    | none => none) else none
  | _ :: _ => none
def rIsi : DRC := fun ds G Q => match ds with
  | [x, .ty T] => T ∈ Tys ∧ ob (isiT T x G) fun b => Q (.bl b) G
  | [x, .tup (c :: cs)] => ob (isiAny G x (c :: cs)) fun b => Q (.bl b) G
  | _ => False
theorem isiAny_kit {K : PySem.W.Frag} {w : World} {H : Hp} {G : DG} {x : D} {v : V} (A : AbsG K w H G) (r : Den K H x v) {t : Value} (tyv : ∀ T b, T ∈ Tys → isiT T x G = some b → PySem.W.kitOne K t (.type T) = some b) : ∀ {cs : List D} {vs : List V} {us : List Value} {b : Bool}, DenL K H cs vs → Vals vs us → isiAny G x cs = some b → PySem.W.kitAny K t us = some b
  | [], _, _, b, h, rv, e => by cases h; cases rv; cases e; rfl
  | c :: cs, _, _, b, h, rv, e => by
    cases h with
    | cons h1 h2 =>
    cases rv with
    | cons r1 r2 =>
    unfold isiAny at e
    split at e
    · rename_i heq
      cases heq
    · rename_i T cs' heq
      cases heq
      cases h1
      split at e
      · rename_i hT
        have r1' : _ = Value.type T := r1
        subst r1'
        split at e
        · rename_i e1
          cases e
          exact kitAny_cons (tyv T _ hT e1) (fun z => nomatch z) (fun _ => rfl)
        · rename_i e1
          exact kitAny_cons (tyv T _ hT e1) (fun _ => isiAny_kit A r tyv h2 r2 e) (fun z => nomatch z)
        · cases e
      · cases e
    · cases e
theorem tyX_all {K : PySem.W.Frag} {w : World} {H : Hp} {G : DG} {x : D} {v : V} (A : AbsG K w H G) (r : Den K H x v) (hs : ∃ T b, T ∈ Tys ∧ isiT T x G = some b) : ∃ n : String, TyX K H v (.type n) ∧ ∀ T b, T ∈ Tys → isiT T x G = some b → kitB n T = some b := by
  have lst : ∀ {a : Addr} {ws : List V}, SqL K H a ws → TyX K H (.ref a) (.type "list") := by
    intro a ws h
    rcases h with (h | ⟨o, h⟩) | ⟨o, its, n, h1, h2, _⟩
    · exact .base (.lst h)
    · exact .base (.frz h)
    · exact .kList h1 h2
  have tup : ∀ {a : Addr} {ws : List V}, SqT K H a ws → TyX K H (.ref a) (.type "tuple") := by
    intro a ws h
    rcases h with (h | ⟨o, h⟩) | ⟨o, its, n, h1, h2, _⟩
    · exact .base (.tup h)
    · exact .fTuple h
    · exact .kTuple h1 h2
  cases r with
  | non => exact ⟨_, .base .non, fun T b hT e => by cases e; exact (kit_tab T hT).1⟩
  | bl y => exact ⟨_, .base (.bl y), fun T b hT e => by cases e; exact (kit_tab T hT).2.1⟩
  | int i => exact ⟨_, .base (.int i), fun T b hT e => by cases e; exact (kit_tab T hT).2.2.1⟩
  | str y h => exact ⟨_, .base (.str y), fun T b hT e => by cases e; exact (kit_tab T hT).2.2.2.1⟩
  | tup hq hl => exact ⟨_, tup hq, fun T b hT e => by cases e; exact (kit_tab T hT).2.2.2.2.1⟩
  | scr hq hl => exact ⟨_, lst hq.sq, fun T b hT e => by cases e; exact (kit_tab T hT).2.2.2.2.2⟩
  | ty n => obtain ⟨T, b, _, e⟩ := hs; cases e
  | ref a =>
    obtain ⟨T0, b0, _, e0⟩ := hs
    unfold isiT at e0
    dsimp only at e0
    split at e0
    · rename_i ds eg
      obtain ⟨ws, hw, hl⟩ := A a _ eg
      refine ⟨_, lst (.of hw), fun T b hT e => ?_⟩
      unfold isiT at e
      dsimp only at e
      rw [eg] at e
      cases e
      exact (kit_tab T hT).2.2.2.2.2
    · cases e0
theorem call_isiD : CallD X (.builtin "isinstance") rIsi := by
  intro pins s σ H xs us Q I rx ⟨ds, G, R, A, r, q, k⟩
  unfold rIsi at q
  split at q
  · rename_i x T
    obtain ⟨hT, q⟩ := q
    obtain ⟨b, e, q⟩ := ob_iff.mp q
    obtain ⟨v, u, rfl, d1, d2⟩ := r.inv2
    cases d2
    obtain ⟨n, ty, ek⟩ := tyD_of A d1 hT e
    exact call_isi pins s σ H _ us Q I rx ⟨_, _, _, _, b, rfl, .ty T, ty, kit_ty ek, k _ G _ H q (.refl A) (.bl _)⟩
  · rename_i x c cs
    obtain ⟨b, e, q0⟩ := ob_iff.mp q
    clear q
    obtain ⟨v, u, rfl, d1, d2⟩ := r.inv2
    cases d2 with
    | tup hq hl =>
    cases rx with
    | cons rx1 rt =>
    cases rt with
    | cons rx2 rt =>
    cases rt
    cases rx2
    obtain ⟨its, rv, ⟨o, ho, hc, n0, hd⟩, _⟩ := I.tuple hq
    have hs : ∃ T b, T ∈ Tys ∧ isiT T x G = some b := by
      unfold isiAny at e
      split at e
      · rename_i heq; cases heq
      · rename_i T cs' heq
        split at e
        · rename_i hT
          split at e
          · rename_i e1; exact ⟨T, _, hT, e1⟩
          · rename_i e1; exact ⟨T, _, hT, e1⟩
          · cases e
        · cases e
      · cases e
    obtain ⟨n, ty, hk⟩ := tyX_all A d1 hs
    obtain ⟨P, Z, p, hx⟩ := kit_of I rx1 ty
    have ka := isiAny_kit (t := .type n) A d1 (fun T b hT e => kit_ty (hk T b hT e)) hl rv e
    obtain ⟨oc, od, dt, sl⟩ := o
    simp only at hc hd
    subst hc hd
    exact PySem.W.kia_tup Z I.kIn p ho ka hx fun tk => ⟨.bl b, H, I.tok tk, rfl, k _ G _ H q0 (.refl A) (.bl _)⟩
  · exact q.elim

/-! ### ord, int, str, max, min -/
def rOrd1 : DRC := fun ds G Q => match ds with
  | [.str x] => x.length = 1 ∧ Q (.int (x.cps.getD 0 0 : Nat)) G
  | _ => False
theorem call_ordD : CallD X (.builtin "ord") rOrd1 := by
  intro pins s σ H xs us Q I rx ⟨ds, G, R, A, r, q, k⟩
  unfold rOrd1 at q
  split at q
  · obtain ⟨v, rfl, d1⟩ := r.inv1
    cases d1
    exact call_ord pins s σ H _ us Q I rx ⟨_, rfl, q.1, k _ G _ H q.2 (.refl A) (.int _)⟩
  · exact q.elim
def rStr1 : DRC := fun ds G Q => match ds with
  | [.int i] => i.natAbs.log2 < 1920 ∧ (toString i : Str).length ≤ 16777216 ∧ Q (.str (toString i)) G
  | _ => False
theorem call_strD : CallD X (.type "str") rStr1 := by
  intro pins s σ H xs us Q I rx ⟨ds, G, R, A, r, q, k⟩
  have hz : sizeLine = 16777216 := sizeLine_eq
  unfold rStr1 at q
  split at q
  · obtain ⟨v, rfl, d1⟩ := r.inv1
    cases d1
    exact call_str_int pins s σ H _ us Q I rx ⟨_, rfl, q.1, k _ G _ H q.2.2 (.refl A) (.str _ (by omega))⟩
  · exact q.elim
def rMax2 : DRC := fun ds G Q => match ds with
  | [.int i, .int j] => Q (.int (if j > i then j else i)) G
  | _ => False
theorem call_max2D (hc : X.calm = true) : CallD X (.builtin "max") rMax2 := by
  intro pins s σ H xs us Q I rx ⟨ds, G, R, A, r, q, k⟩
  unfold rMax2 at q
  split at q
  · obtain ⟨v, u, rfl, d1, d2⟩ := r.inv2
    cases d1; cases d2
    exact call_max2 hc pins s σ H _ us Q I rx ⟨_, _, rfl, k _ G _ H q (.refl A) (.int _)⟩
  · exact q.elim
def rMin2 : DRC := fun ds G Q => match ds with
  | [.int i, .int j] => Q (.int (if j < i then j else i)) G
  | _ => False
theorem call_min2D (hc : X.calm = true) : CallD X (.builtin "min") rMin2 := by
  intro pins s σ H xs us Q I rx ⟨ds, G, R, A, r, q, k⟩
  unfold rMin2 at q
  split at q
  · obtain ⟨v, u, rfl, d1, d2⟩ := r.inv2
    cases d1; cases d2
    exact call_min2 hc pins s σ H _ us Q I rx ⟨_, _, rfl, k _ G _ H q (.refl A) (.int _)⟩
  · exact q.elim
/-- int of a bool, an int -/
def rInt1 : DRC := fun ds G Q => match ds with
  | [.int i] => Q (.int i) G
  | [.bl b] => Q (.int (b2 b)) G
  | _ => False
theorem call_int1D : CallD X (.type "int") rInt1 := by
  intro pins s σ H xs us Q I rx ⟨ds, G, R, A, r, q, k⟩
  unfold rInt1 at q
  split at q
  · obtain ⟨v, rfl, d1⟩ := r.inv1
    cases d1
    exact call_int1 pins s σ H _ us Q I rx (.inl ⟨_, rfl, k _ G _ H q (.refl A) (.int _)⟩)
  · obtain ⟨v, rfl, d1⟩ := r.inv1
    cases d1
    exact call_int1 pins s σ H _ us Q I rx (.inr ⟨_, rfl, k _ G _ H q (.refl A) (.int _)⟩)
  · exact q.elim

/-! ### all, any of a list of bools -/
def blsOf : List D → Option (List Bool)
  | [] => some []
  | .bl b :: r => (blsOf r).map (b :: ·)
  | _ :: _ => none
theorem bls_den {K : PySem.W.Frag} {H : Hp} : ∀ {ds : List D} {vs : List V} {bs : List Bool}, DenL K H ds vs → blsOf ds = some bs → vs = bs.map V.bl
  | [], _, _, h, e => by cases h; cases e; rfl
  | .bl b :: r, _, _, h, e => by
    cases h with
    | cons h1 h2 =>
    cases h1
    rw [blsOf, Option.map_eq_some_iff] at e
    obtain ⟨bs, e, rfl⟩ := e
    rw [bls_den h2 e]
    rfl
  | .non :: _, _, _, _, e => by cases e
  | .int _ :: _, _, _, _, e => by cases e
  | .str _ :: _, _, _, _, e => by cases e
  | .tup _ :: _, _, _, _, e => by cases e
  | .scr _ :: _, _, _, _, e => by cases e
  | .ty _ :: _, _, _, _, e => by cases e
  | .ref _ :: _, _, _, _, e => by cases e
theorem blsOf_map {α : Type} (f : α → Bool) : ∀ l : List α, blsOf (l.map fun x => .bl (f x)) = some (l.map f)
  | [] => rfl
  | a :: l => by
    show (blsOf (l.map fun x => .bl (f x))).map (f a :: ·) = _
    rw [blsOf_map f l]
    rfl
def rAll : DRC := fun ds G Q => match ds with
  | [.ref a] => (match G a with
    | some (.lst xs) => ob (blsOf xs) fun bs => Q (.bl (bs.all id)) G
    | _ => False)
  | _ => False
def rAny : DRC := fun ds G Q => match ds with
  | [.ref a] => (match G a with
    | some (.lst xs) => ob (blsOf xs) fun bs => Q (.bl (bs.any id)) G
    | _ => False)
  | _ => False
theorem call_allD (hc : X.calm = true) : CallD X (.builtin "all") rAll := by
  intro pins s σ H xs us Q I rx ⟨ds, G, R, A, r, q, k⟩
  unfold rAll at q
  split at q
  · obtain ⟨v, rfl, d1⟩ := r.inv1
    cases d1
    split at q
    · rename_i eg
      obtain ⟨bs, e, q⟩ := ob_iff.mp q
      obtain ⟨ws, hw, hl⟩ := A _ _ eg
      rw [bls_den hl e] at hw
      exact cr_all hc pins s σ H _ us Q I rx ⟨_, bs, rfl, .of hw, k _ G _ H q (.refl A) (.bl _)⟩
    · exact q.elim
  · exact q.elim
theorem call_anyD (hc : X.calm = true) : CallD X (.builtin "any") rAny := by
  intro pins s σ H xs us Q I rx ⟨ds, G, R, A, r, q, k⟩
  unfold rAny at q
  split at q
  · obtain ⟨v, rfl, d1⟩ := r.inv1
    cases d1
    split at q
    · rename_i eg
      obtain ⟨bs, e, q⟩ := ob_iff.mp q
      obtain ⟨ws, hw, hl⟩ := A _ _ eg
      rw [bls_den hl e] at hw
      exact cr_any hc pins s σ H _ us Q I rx ⟨_, bs, rfl, .of hw, k _ G _ H q (.refl A) (.bl _)⟩
    · exact q.elim
  · exact q.elim

/-! ### tuple, list -/
def rTuple : DRC := fun ds G Q => match ds with
  | [.tup xs] => Q (.tup xs) G
  | [.ref a] => (match G a with
    | some (.lst xs) => Q (.tup xs) G
    | _ => False)
  | _ => False
theorem call_tupleD : CallD X (.type "tuple") rTuple := by
  intro pins s σ H xs us Q I rx ⟨ds, G, R, A, r, q, k⟩
  unfold rTuple at q
  split at q
  · obtain ⟨v, rfl, d1⟩ := r.inv1
    cases d1 with
    | tup hq hl => exact call_tuple_of pins s σ H _ us Q I rx ⟨_, _, rfl, .inr ⟨hq, k _ G _ H q (.refl A) (.tup hq hl)⟩⟩
  · obtain ⟨v, rfl, d1⟩ := r.inv1
    cases d1
    split at q
    · rename_i eg
      obtain ⟨ws, hw, hl⟩ := A _ _ eg
      exact call_tuple_of pins s σ H _ us Q I rx ⟨_, _, rfl, .inl ⟨.of hw, fun l hn => k _ G _ _ q (Step.hidden A hn) (.tup (.of upd_same) (hl.mono (.alloc hn)))⟩⟩
    · exact q.elim
  · exact q.elim
def rList : DRC := fun ds G Q => match ds with
  | [.tup xs] => ∀ p, G p = none → Q (.ref p) (gup G p (.lst xs))
  | [.ref a] => (match G a with
    | some (.lst xs) => ∀ p, G p = none → Q (.ref p) (gup G p (.lst xs))
    | _ => False)
  | _ => False
theorem call_listD : CallD X (.type "list") rList := by
  intro pins s σ H xs us Q I rx ⟨ds, G, R, A, r, q, k⟩
  unfold rList at q
  split at q
  · obtain ⟨v, rfl, d1⟩ := r.inv1
    cases d1 with
    | tup hq hl => exact call_list_of pins s σ H _ us Q I rx ⟨_, _, rfl, .inr hq, fun l hn => k _ _ _ _ (q l (A.none hn)) (Step.alloc A hn ⟨_, upd_same, hl.mono (.alloc hn)⟩) (.ref l)⟩
  · obtain ⟨v, rfl, d1⟩ := r.inv1
    cases d1
    split at q
    · rename_i eg
      obtain ⟨ws, hw, hl⟩ := A _ _ eg
      exact call_list_of pins s σ H _ us Q I rx ⟨_, _, rfl, .inl (.of hw), fun l hn => k _ _ _ _ (q l (A.none hn)) (Step.alloc A hn ⟨_, upd_same, hl.mono (.alloc hn)⟩) (.ref l)⟩
    · exact q.elim
  · exact q.elim

/-! ### append, extend, pop, count, index -/
def rAppend : DRM := fun d ds G Q => match d, ds with
  | .ref a, [y] => (match G a with
    | some (.lst xs) => xs.length < 16777216 ∧ Q .non (gup G a (.lst (xs ++ [y])))
    | _ => False)
  | _, _ => False
theorem step_lst {K : PySem.W.Frag} {w : World} {H : Hp} {G : DG} {a : Addr} {o0 : O} {ds : List D} {vs : List V} (A : AbsG K w H G) (eg : G a = some o0) (hl : DenL K H ds vs) : Step K w H G (upd H a (.lst vs)) (gup G a (.lst ds)) :=
  Step.write (o := .lst ds) (u := .lst vs) A eg ⟨vs, upd_same, hl.mono (.write A eg)⟩
theorem mt_appendD : MtD X "list.append" rAppend := by
  intro pins s σ H x xs v us Q I rx rxs ⟨d, ds, G, R, A, r1, r2, q, k⟩
  have hz : sizeLine = 16777216 := sizeLine_eq
  unfold rAppend at q
  split at q
  · cases r1
    obtain ⟨y, rfl, dy⟩ := r2.inv1
    split at q
    · rename_i eg
      obtain ⟨ws, hw, hl⟩ := A _ _ eg
      exact mt_append pins s σ H _ _ v us Q I rx rxs ⟨_, ws, y, rfl, rfl, hw, by rw [← hl.length]; omega, k _ _ _ _ q.2 (step_lst A eg (hl.append (.one dy))) .non⟩
    · exact q.elim
  · exact q.elim
def rExtend : DRM := fun d ds G Q => match d, ds with
  | .ref a, [.ref b] => (match G a, G b with
    | some (.lst xs), some (.lst ys) => xs.length + ys.length ≤ 16777216 ∧ Q .non (gup G a (.lst (xs ++ ys)))
    | _, _ => False)
  | _, _ => False
theorem mt_extendD : MtD X "list.extend" rExtend := by
  intro pins s σ H x xs v us Q I rx rxs ⟨d, ds, G, R, A, r1, r2, q, k⟩
  have hz : sizeLine = 16777216 := sizeLine_eq
  unfold rExtend at q
  split at q
  · cases r1
    obtain ⟨y, rfl, dy⟩ := r2.inv1
    cases dy
    split at q
    · rename_i e1 e2
      obtain ⟨ws, hw, hl⟩ := A _ _ e1
      obtain ⟨zs, hzs, hl2⟩ := A _ _ e2
      exact mt_extend pins s σ H _ _ v us Q I rx rxs ⟨_, _, ws, zs, rfl, rfl, hw, hzs, by rw [← hl.length, ← hl2.length]; omega, k _ _ _ _ q.2 (step_lst A e1 (hl.append hl2)) .non⟩
    · exact q.elim
  · exact q.elim
def rPop : DRM := fun d ds G Q => match d, ds with
  | .ref a, [] => (match G a with
    | some (.lst xs) => ob xs.getLast? fun y => Q y (gup G a (.lst xs.dropLast))
    | _ => False)
  | _, _ => False
theorem mt_popD : MtD X "list.pop" rPop := by
  intro pins s σ H x xs v us Q I rx rxs ⟨d, ds, G, R, A, r1, r2, q, k⟩
  unfold rPop at q
  split at q
  · cases r1
    cases r2
    split at q
    · rename_i eg
      obtain ⟨y, ey, q⟩ := ob_iff.mp q
      obtain ⟨ws, hw, hl⟩ := A _ _ eg
      rw [List.getLast?_eq_getElem?] at ey
      obtain ⟨vy, hv, dv⟩ := hl.get ey
      rw [hl.length] at hv
      have st := step_lst A eg hl.dropLast
      exact mt_pop pins s σ H _ _ v us Q I rx rxs ⟨_, ws, vy, rfl, rfl, hw, hv, k _ _ _ _ q st (dv.mono (st.kp A))⟩
    · exact q.elim
  · exact q.elim
/-- the first place of an equal one -/
def idxP (p : Pd) : List Pd → Option Nat
  | [] => none
  | q :: r => if eqP q p = true then some 0 else (idxP p r).map (· + 1)
theorem idxP_some {p : Pd} : ∀ {qs : List Pd} {j : Nat}, idxP p qs = some j → (∃ q, qs[j]? = some q ∧ eqP q p = true) ∧ ∀ m q, m < j → qs[m]? = some q → eqP q p = false
  | [], _, h => by cases h
  | q :: r, j, h => by
    unfold idxP at h
    by_cases e : eqP q p = true
    · rw [if_pos e] at h
      cases h
      exact ⟨⟨q, rfl, e⟩, fun m _ hm => absurd hm (Nat.not_lt_zero _)⟩
    · rw [if_neg e, Option.map_eq_some_iff] at h
      obtain ⟨j', h, rfl⟩ := h
      obtain ⟨⟨q', h1, h2⟩, h3⟩ := idxP_some h
      refine ⟨⟨q', by simpa using h1, h2⟩, fun m q'' hm hq => ?_⟩
      cases m with
      | zero => simp at hq; subst hq; exact Bool.eq_false_iff.mpr e
      | succ m => exact h3 m q'' (by omega) (by simpa using hq)
def rIndex : DRM := fun d ds G Q => match d, ds with
  | .ref a, [y] => (match G a with
    | some (.lst xs) => ob (res G y) fun p => ob (ress G xs) fun qs => (dpP p ≤ 60 ∨ dpPs qs ≤ 60) ∧ ob (idxP p qs) fun j => Q (.int (j : Nat)) G
    | _ => False)
  | _, _ => False
theorem mt_indexD (hu : X.A.units + 64 < cLine) : MtD X "list.index" rIndex := by
  intro pins s σ H x xs v us Q I rx rxs ⟨d, ds, G, R, A, r1, r2, q, k⟩
  have hz : sizeLine = 16777216 := sizeLine_eq
  unfold rIndex at q
  split at q
  · cases r1
    obtain ⟨y, rfl, dy⟩ := r2.inv1
    split at q
    · rename_i eg
      obtain ⟨p, e1, q⟩ := ob_iff.mp q
      obtain ⟨qs, e2, hd, q⟩ := ob_iff.mp q
      obtain ⟨j, ej, q⟩ := ob_iff.mp q
      obtain ⟨ws, hw, hl⟩ := A _ _ eg
      cases rx
      cases rxs with
      | cons ry rt =>
      rename_i uy _
      cases rt
      obtain ⟨its, rv, ⟨⟨cls, dd, data, sl⟩, n, ho, hc, hdn, hdd⟩, hlen⟩ := I.list (.of hw)
      simp only at hc hdd
      subst hc hdd
      have P1 := Den.res I A _ dy ry e1
      have P2 := DenL.ress I A _ hl rv e2
      obtain ⟨⟨qj, hqj, eqj⟩, hno⟩ := idxP_some ej
      have plen := PAll.length _ _ P2
      have hjl : j < its.length := by rw [plen]; exact (List.getElem?_eq_some_iff.mp hqj).1
      have pat : ∀ {qs : List Pd} {us : List Value}, PAll s.heap qs us → ∀ (m : Nat) (hm : m < us.length), ∃ q, qs[m]? = some q ∧ PIs s.heap q us[m] := by
        intro qs
        induction qs with
        | nil => intro us h m hm; cases h; exact absurd hm (Nat.not_lt_zero _)
        | cons q qs ih =>
          intro us h m hm
          cases h with
          | cons h1 h2 =>
          cases m with
          | zero => exact ⟨q, rfl, h1⟩
          | succ m =>
            obtain ⟨q', h3, h4⟩ := ih h2 m (by simpa using hm)
            exact ⟨q', by simpa using h3, by simpa using h4⟩
      have hvl := rv.length
      refine call_meets PySem.F.slot_list_index ⟨_, ho, rfl⟩ PySem.F.entry_list_index (PySem.F.args_list_index_2 _ _)
        (SeqAt.list_indexAt _ its.toArray n dd sl uy (eqW s.heap p) j (by simpa using hjl) (by omega) ?_ ?_) ⟨ho, fun u' hu' => mem_eqW P1 P2 (by rw [units_in1]; omega) u' (by simpa using hu'), ?_⟩
      · obtain ⟨q', h1, h2⟩ := pat P2 j hjl
        rw [hqj] at h1
        cases h1
        have : its.toArray[j]'(by simpa using hjl) = its[j] := by simp
        rw [this, eqW_of h2]
        exact eqj
      · intro m hm hmj
        have hml : m < its.length := by simpa using hm
        obtain ⟨q', h1, h2⟩ := pat P2 m hml
        have : its.toArray[m] = its[m] := by simp
        rw [this, eqW_of h2]
        exact hno m q' hmj h1
      · exact ⟨.int (j : Nat), H, I.tok _, ⟨_, rfl⟩, k _ G _ H q (.refl A) (.int _)⟩
    · exact q.elim
  · exact q.elim

/-! ### texts: join, split, upper -/
def strsOf : List D → Option (List Str)
  | [] => some []
  | .str b :: r => (strsOf r).map (b :: ·)
  | _ :: _ => none
theorem strs_den {K : PySem.W.Frag} {H : Hp} : ∀ {ds : List D} {vs : List V} {bs : List Str}, DenL K H ds vs → strsOf ds = some bs → vs = bs.map V.str
  | [], _, _, h, e => by cases h; cases e; rfl
  | .str b :: r, _, _, h, e => by
    cases h with
    | cons h1 h2 =>
    cases h1
    rw [strsOf, Option.map_eq_some_iff] at e
    obtain ⟨bs, e, rfl⟩ := e
    rw [strs_den h2 e]
    rfl
  | .non :: _, _, _, _, e => by cases e
  | .int _ :: _, _, _, _, e => by cases e
  | .bl _ :: _, _, _, _, e => by cases e
  | .tup _ :: _, _, _, _, e => by cases e
  | .scr _ :: _, _, _, _, e => by cases e
  | .ty _ :: _, _, _, _, e => by cases e
  | .ref _ :: _, _, _, _, e => by cases e
theorem strsOf_map {α : Type} (f : α → Str) : ∀ l : List α, strsOf (l.map fun x => .str (f x)) = some (l.map f)
  | [] => rfl
  | a :: l => by
    show (strsOf (l.map fun x => .str (f x))).map (f a :: ·) = _
    rw [strsOf_map f l]
    rfl
def rJoin : DRM := fun d ds G Q => match d, ds with
  | .str z, [.ref a] => (match G a with
    | some (.lst xs) => ob (strsOf xs) fun ys => ((ys.map (·.length)).sum + ys.length * z.length ≤ 16777216 ∧ (Txt.join z ys).length ≤ 16777216) ∧ Q (.str (Txt.join z ys)) G
    | _ => False)
  | _, _ => False
theorem mt_joinD : MtD X "str.join" rJoin := by
  intro pins s σ H x xs v us Q I rx rxs ⟨d, ds, G, R, A, r1, r2, q, k⟩
  have hz : sizeLine = 16777216 := sizeLine_eq
  unfold rJoin at q
  split at q
  · cases r1
    obtain ⟨y, rfl, dy⟩ := r2.inv1
    cases dy
    split at q
    · rename_i eg
      obtain ⟨ys, e1, ⟨h1, h2⟩, q⟩ := ob_iff.mp q
      obtain ⟨ws, hw, hl⟩ := A _ _ eg
      rw [strs_den hl e1] at hw
      exact mt_join pins s σ H _ _ v us Q I rx rxs ⟨_, _, ys, rfl, rfl, .inl (.of hw), h1, k _ G _ H q (.refl A) (.str _ (by omega))⟩
    · exact q.elim
  · exact q.elim
end
end DD

/-! D-layer 12: globals, zip, enumerate, dict(pairs), max, sorted -/
namespace DD
open PySem PySem.Spec PyProof.Rows L2 SeqAt
/-! ### globals of the module -/
/-- the global x is the constant d -/
def GlD (X : Cx) (x : Str) (d : D) : Prop := ∃ v u, X.mg x = some u ∧ RelV v u ∧ ∀ H, Den X.K H d v
theorem de_glob {X : Cx} {ρ : Rg X.K X.w} {x : Str} {d : D} {pos : Pos} (hg : Gl X x) (h : GlD X x d) (hd : (x == ("__debug__" : Str)) = false := by decide) : DE X ρ (.Name x pos) (dC d) := by
  obtain ⟨v, u, hm, r, hden⟩ := h
  refine L2.PE.imp (pe_glob hg hm r hd) fun σ H Q ⟨δ, G, R, ab, ds, t, k⟩ => ?_
  exact k _ _ _ _ t ab.same (hden H)
/-- a built-in type by its name -/
theorem de_ty {X : Cx} {ρ : Rg X.K X.w} {x : Str} {n : String} {pos : Pos} (hg : Gl X x) (hm : X.mg x = none) (hv : bootBuiltins x = some (.type n)) (hn : x ≠ "__name__" := by decide) (hd : (x == ("__debug__" : Str)) = false := by decide) : DE X ρ (.Name x pos) (dC (.ty n)) := by
  refine L2.PE.imp (pe_bltn (v := .ty n) hg hm hv rfl hn hd) fun σ H Q ⟨δ, G, R, ab, ds, t, k⟩ => ?_
  exact k _ _ _ _ t ab.same (.ty n)

/-! ### zip -/
def zipD (xs ys : List D) : List D := (xs.zip ys).map fun p => .tup [p.1, p.2]
theorem zipD_len (xs ys : List D) : (zipD xs ys).length = min xs.length ys.length := by simp [zipD]
def dZip (TB : DTA) : DTI := fun δ G R => TB δ G fun ds G1 => match ds with
  | [.tup xs, .tup ys] => R (zipD xs ys) (fun _ => True) G1
  | [.ref a, .ref b] => (match G1 a, G1 b with
    | some (.lst xs), some (.lst ys) => R (zipD xs ys) (fun G' => G' a = some (.lst xs) ∧ G' b = some (.lst ys)) G1
    | _, _ => False)
  | _ => False
section
variable {X : Cx} {ρ : Rg X.K X.w} {a b c e : Expr} {pos : Pos} {TB : DTA}
/-- the state is held behind the arguments -/
theorem _root_.L2.PA.held {es : List Expr} {t : L2.TA} (h : PA X es t) : PA X es (fun σ H Q => t σ H fun vs H' => (∀ (s : Shared) (pins : List (Addr × Obj)), Inv X pins σ H' s → Q vs H')) :=
  ⟨fun pos pins s σ H Q I q => thn (h.run pos pins s σ H _ I q) fun us s1 ⟨vs, H1, I1, r, q1⟩ => ⟨vs, H1, I1, r, q1 s1 pins I1⟩⟩
theorem zip_item {K : PySem.W.Frag} {w : World} {H : Hp} {G : DG} {xs ys : List D} {vs us : List V} {i : Nat} {x y : V} {T : Addr} (A : AbsG K w H G) (l1 : DenL K H xs vs) (l2 : DenL K H ys us) (hx : vs[i]? = some x) (hy : us[i]? = some y) (hT : H T = none) :
    ∃ d, (zipD xs ys)[i]? = some d ∧ Step K w H G (upd H T (.tup [x, y])) G ∧ Den K (upd H T (.tup [x, y])) d (.ref T) := by
  obtain ⟨d1, e1, r1⟩ := l1.getV hx
  obtain ⟨d2, e2, r2⟩ := l2.getV hy
  refine ⟨.tup [d1, d2], ?_, Step.hidden A hT, .tup (.of upd_same) (.cons (r1.mono (.alloc hT)) (.one (r2.mono (.alloc hT))))⟩
  unfold zipD
  rw [List.getElem?_map, List.getElem?_zip_eq_some (z := (d1, d2)).mpr ⟨e1, e2⟩]
  rfl
theorem di_zip {p tpos : Pos} {elts : List Expr} {kk : Nat} (hg : Gl X "zip") (hm : X.mg "zip" = none) (ha : DA X ρ [a, b] TB)
    (hs : starEach [a, b] X.env = (false, eval a X.env) :: starEach [b] X.env := by rfl) (hpl : (backTo pos (starEach [b] X.env)).any (·.1) = false := by rfl) :
    DI X ρ (.Tuple elts kk tpos) (.Call (.Name "zip" p) [a, b] [] pos) (dZip TB) := by
  refine L2.PI.imp (RZ.pi_zipA hg hm (L2.PA.held ha) hs hpl) fun σ H R' ⟨δ, G, R, ab, ds, t, k⟩ => ?_
  refine ⟨δ, G, _, ab, ds, t, fun ds' G1 us H1 q s r n s' pins I => ?_⟩
  have hz : sizeLine = 16777216 := sizeLine_eq
  split at q
  · rename_i xs ys
    obtain ⟨v, u, rfl, d1, d2⟩ := r.inv2
    cases d1 with
    | tup h1 l1 =>
    cases d2 with
    | tup h2 l2 =>
    rename_i a vs b us
    obtain ⟨_, _, _, z1⟩ := I.tuple h1
    refine ⟨a, b, vs, us, rfl, .inr ⟨h1, h2, k _ _ G1 _ H1 q s ⟨fun H => SqT X.K H a vs ∧ SqT X.K H b us, fun i H v H' => ∃ T x y, v = .ref T ∧ H T = none ∧ H' = upd H T (.tup [x, y]) ∧ vs[i]? = some x ∧ us[i]? = some y, ⟨fun i H hi g => ?_, fun H g => ?_, fun i H x H' hi g y => ?_⟩, ?_, fun H G kp _ _ => ⟨kp.tup _ _ h1, kp.tup _ _ h2⟩, fun i H x H' G kp A _ g hi y => ?_⟩⟩⟩
    · rw [zipD_len] at hi
      have l1' := l1.length
      have l2' := l2.length
      exact ⟨vs, us, vs[i], us[i], g.1, g.2, List.getElem?_eq_getElem (by omega), List.getElem?_eq_getElem (by omega)⟩
    · have l1' := l1.length
      have l2' := l2.length
      refine ⟨vs, us, g.1, g.2, ?_⟩
      rw [zipD_len]
      omega
    · obtain ⟨T, x', y', e1, e2, e3, e4, e5⟩ := y
      exact ⟨T, x', y', e1, e2, e3, e4 _ g.1, e5 _ g.2⟩
    · rw [zipD_len]
      have := l1.length
      omega
    · obtain ⟨T, x', y', rfl, hT, rfl, e4, e5⟩ := y
      exact zip_item A (l1.mono kp) (l2.mono kp) e4 e5 hT
  · rename_i a b
    obtain ⟨v, u, rfl, d1, d2⟩ := r.inv2
    cases d1; cases d2
    split at q
    · rename_i xs ys e1 e2
      obtain ⟨vs, h1, l1⟩ := s.abs a _ e1
      obtain ⟨us, h2, l2⟩ := s.abs b _ e2
      obtain ⟨_, _, _, z1⟩ := I.list (.of h1)
      refine ⟨a, b, vs, us, rfl, .inl ⟨.of h1, .of h2, k _ _ G1 _ H1 q s ⟨fun H => ∃ vs us, SqL X.K H a vs ∧ SqL X.K H b us ∧ DenL X.K H xs vs ∧ DenL X.K H ys us, fun i H v H' => ∃ T x y vs us, v = .ref T ∧ H T = none ∧ H' = upd H T (.tup [x, y]) ∧ DenL X.K H xs vs ∧ DenL X.K H ys us ∧ vs[i]? = some x ∧ us[i]? = some y, ⟨fun i H hi g => ?_, fun H g => ?_, fun i H x H' hi g y => ?_⟩, ?_, fun H G kp A c => ?_, fun i H x H' G kp A _ g hi y => ?_⟩⟩⟩
      · obtain ⟨vs, us, g1, g2, m1, m2⟩ := g
        rw [zipD_len] at hi
        have l1' := m1.length
        have l2' := m2.length
        exact ⟨vs, us, vs[i], us[i], g1, g2, List.getElem?_eq_getElem (by omega), List.getElem?_eq_getElem (by omega)⟩
      · obtain ⟨vs, us, g1, g2, m1, m2⟩ := g
        have l1' := m1.length
        have l2' := m2.length
        refine ⟨vs, us, g1, g2, ?_⟩
        rw [zipD_len]
        omega
      · obtain ⟨vs, us, g1, g2, m1, m2⟩ := g
        obtain ⟨T, x', y', e1, e2, e3, e4, e5⟩ := y
        exact ⟨T, x', y', vs, us, e1, e2, e3, m1, m2, e4 _ g1, e5 _ g2⟩
      · rw [zipD_len]
        have := l1.length
        omega
      · obtain ⟨ws, hw, m1⟩ := A a _ c.1
        obtain ⟨ws2, hw2, m2⟩ := A b _ c.2
        exact ⟨ws, ws2, .of hw, .of hw2, m1, m2⟩
      · obtain ⟨T, x', y', vs, us, rfl, hT, rfl, m1, m2, e4, e5⟩ := y
        exact zip_item A m1 m2 e4 e5 hT
    · exact q.elim
  · exact q.elim
end

/-! ### enumerate of a tuple -/
theorem enum_endT {prog : Program} {w : World} {A : Around} {E : Value → Shared → Prop} {s : Shared} {e it l : Addr} {i : Nat} {items : Array Value} {old : Value} {Q : Option Value → Shared → Prop} (hh : A.handled = none)
    (he : IsEnum s.heap e it i old) (hit : s.heap.IsTupleIter it l i) (hl : s.heap.IsTuple l items) (hx : items[i]? = none)
    (hQ : ∀ h', Heap.ExtBut it s.heap h' → Q none { s with heap := h' }) : wpAny (model prog w) A (pyNext (.ref e)) Q E s := by
  have hT : s.TypeIs (.ref e) "enumerate" := ⟨_, he, rfl⟩
  unfold pyNext
  refine wpAny_bind (wpAny_attempt (wpAny_callSpecial?_slot (name := Str.ofString "__next__") hT F.slot_enumerate_next
    (wpAny_call_entry F.slot_enumerate_next hT F.entry_enumerate_next ?_ (F.args_enumerate_next_1 _))))
  show wpAny _ _ (field (.ref e) 2 >>= _) _ _ _
  refine wpAny_bind (wpAny_field he rfl (x := .ref it) rfl ?_)
  refine wpAny_bind (wpAny_nextOf_tuple_end hh hit hl hx fun h' x he' hx' => ?_)
  obtain ⟨o, ho, hc⟩ := hx'
  refine wpAny_bind (wpAny_isInstance (T := "StopIteration") (b := true) ⟨o, ho, hc⟩ isSubtype_stop ?_)
  exact wpAny_pure (hQ _ he')
/-- the tuple at a as it stands at each turn, each item in a new pair -/
def IteT (K : PySem.W.Frag) (a : Addr) : It :=
  ⟨fun i H => ∃ (xs : List V) (x : V), SqT K H a xs ∧ xs[i]? = some x, fun i H v H' => ∃ T x, v = .ref T ∧ H T = none ∧ H' = upd H T (.tup [.int (i : Nat), x]) ∧ ∀ xs, SqT K H a xs → xs[i]? = some x, fun i H => ∃ xs : List V, SqT K H a xs ∧ xs.length ≤ i⟩
theorem turn_enumT {P : Program} {w : World} {K : PySem.W.Frag} {elts : List Expr} {kk : Nat} {tpos : Pos} (a e it : Addr) :
    Turn P w K (.Tuple elts kk tpos) (IteT K a) [e, it] e (fun i h => (∃ old, IsEnum h e it ((i : Nat) : Int) old) ∧ h.IsTupleIter it a i ∧ e ≠ it ∧ e ≠ a ∧ it ≠ a) where
  mem := by simp
  obj := fun i h st b hb => by
    obtain ⟨⟨old, he⟩, ⟨o, ho, hc, hd⟩, _⟩ := st
    have e' : b = e ∨ b = it := by simpa using hb
    rcases e' with z | z
    · rw [z]; exact ⟨_, he, fun v q => nomatch q⟩
    · rw [z]; exact ⟨o, ho, fun v q => by rw [hd] at q; cases q⟩
  keep := fun i h h' st k => let ⟨⟨old, he⟩, hi, hne⟩ := st; ⟨⟨old, k e (by simp) _ he⟩, hi.at fun o q => k it (by simp) o q, hne⟩
  item := by
    intro X hP hw hK hc i pins s σ H E I hf st hg
    subst hP hw hK
    obtain ⟨⟨old, he⟩, hit, hne, hea, hia⟩ := st
    obtain ⟨xs, x, hq, hx⟩ := hg
    obtain ⟨its, rv, p, hz⟩ := I.tuple hq
    obtain ⟨u, hu, ru⟩ := rv.get hx
    have hel : e < s.heap.objs.size := Heap.lt_size he
    have hil : it < s.heap.objs.size := by obtain ⟨_, q, _⟩ := hit; exact Heap.lt_size q
    have hlt : i < its.toArray.size := by
      have := (List.getElem?_eq_some_iff.mp hu).1
      simpa using this
    refine wpAny_pyNext_enum_itemC (D := Draws.tuple (A := X.A.in1) (I.ok.hd hc) it a (Ne.symm hia) its.toArray) he ⟨hit, p⟩ hlt hne (by simp; exact ⟨hne, hea⟩) fun x' h' tk hx' ho hst hT hsz hk => ?_
    obtain ⟨hit', p'⟩ := hst
    have ex : x' = u := by
      have h1 : its[i]? = some x' := by simpa using hx'
      rw [hu] at h1
      cases h1
      rfl
    subst ex
    refine ⟨_, rfl, wpAny_letOwnedTupleGo_enum (s := { s with heap := h', toks := tk + 1 }) ho fun h'' he' sb => ?_⟩
    have hT2 : h''.get? s.heap.objs.size = some { cls := .type "tuple", data := .seq #[.int i tk, x'] } := (sb.2 _ (Nat.ne_of_gt hel)).trans hT
    have new : ObjOk X.prog X.w (upd H s.heap.objs.size (.tup [.int (i : Nat), x])) h'' s.heap.objs.size (.tup [.int (i : Nat), x]) :=
      ⟨by show 2 ≤ sizeLine; decide, [.int i tk, x'], .cons ⟨_, rfl⟩ (.cons ru .nil), ⟨_, hT2, rfl, _, rfl⟩⟩
    have I1 : Inv X pins σ (upd H s.heap.objs.size (.tup [.int (i : Nat), x])) { s with heap := h'', toks := tk + 1 } :=
      I.turnedNew (ch := [e, it]) (fun b ob hb q => (sb.2 b (fun z => hb (by simp [z]))).trans (hk b ob (fun z => hb (by simp [z])) (fun z => hb (by simp [z])) q)) hf (Nat.le_refl _) new
    refine ⟨.ref s.heap.objs.size, _, I1, rfl, ⟨_, x, rfl, I.hok.fresh (Nat.le_refl _), rfl, fun ys hy => by rw [I.tuple_inj hy hq]; exact hx⟩, ⟨⟨x', ?_⟩, hit'.at fun o q => (sb.2 it (Ne.symm hne)).trans q, hne, hea, hia⟩, fun b hb => ?_⟩
    · have e1 : ((i + 1 : Nat) : Int) = (i : Int) + 1 := by omega
      rw [e1]; exact he'
    · have hb' : b < s.heap.objs.size := by
        have e' : b = e ∨ b = it := by simpa using hb
        rcases e' with z | z
        · rw [z]; exact hel
        · rw [z]; exact hil
      rw [upd_ne (Nat.ne_of_lt hb')]
      exact (hf b hb).1
  done := by
    intro X hP hw hK hc i pins s σ H E I hf st hg
    subst hP hw hK
    obtain ⟨⟨old, he⟩, hit, hne, hea, hia⟩ := st
    obtain ⟨xs, hq, hx⟩ := hg
    obtain ⟨its, rv, p, hz⟩ := I.tuple hq
    obtain ⟨f0, f1, f2, f3, f4, f5⟩ := hf it (by simp)
    have hl := rv.length
    exact enum_endT (I.ok.hd hc) he hit p (by simp; omega) fun h' eb => ⟨rfl, I.turned (t' := s.toks) (fun b o hb q => eb b o hb q) f0 f1 f3 f4 f5⟩
  self := fun A i s Q E st h => let ⟨⟨_, he⟩, _⟩ := st; wpAny_pyIter_enum he h
theorem meets_enum_T (l : Addr) (items : Array Value) (n : Nat) (dct : Option Addr) (sl : Array (Option Value)) :
    Meets (Builtin.«enumerate.__new__» ⟨[.type "enumerate", .ref l], []⟩) (fun _ R s => s.heap.get? l = some { cls := .type "tuple", dict := dct, data := .seq items n, slots := sl } ∧
      R (.ok (.ret (.ref (s.heap.push { cls := .type "tuple_iterator", data := .fields #[.ref l, .int 0 0] }).objs.size)))
        { s with heap := (s.heap.push { cls := .type "tuple_iterator", data := .fields #[.ref l, .int 0 0] }).push { cls := .type "enumerate", data := .fields #[.none, .bool false, .ref s.heap.objs.size, rawInt 0, .none, .none] } }) :=
  .of_wp fun prog w A R s h => by
    obtain ⟨hp, g, d, tk, os⟩ := s; obtain ⟨hl, h⟩ := h
    have hsub := sub_enumerate
    have hL : Heap.IsTuple (Shared.heap ⟨hp, g, d, tk, os⟩) l items := ⟨_, hl, rfl, n, rfl⟩
    wp_walk using AutoSeq1.wpAny_loadPart' hl
    refine wpAny_stack_any fun st => wpAny_pure ?_
    split
    · rename_i c _ _ _ _ _
      cases (c == Value.type "enumerate")
      · wp_walk using AutoSeq1.wpAny_loadPart' hl, wpAny_pyIter_tuple hL
        exact ⟨_, rfl, h⟩
      · wp_walk using AutoSeq1.wpAny_loadPart' hl, wpAny_pyIter_tuple hL
        exact ⟨_, rfl, h⟩
    · wp_walk using AutoSeq1.wpAny_loadPart' hl, wpAny_pyIter_tuple hL
      exact ⟨_, rfl, h⟩
theorem call_enum_tuple {prog : Program} {w : World} {A : Around} {E : Value → Shared → Prop} {s : Shared} {l : Addr} {items : Array Value} {Q : Value → Shared → Prop} (hL : s.heap.IsTuple l items)
    (h : ∀ h', IsEnum h' (s.heap.objs.size + 1) s.heap.objs.size 0 .none → h'.IsTupleIter s.heap.objs.size l 0 → h'.objs.size = s.heap.objs.size + 2 →
      (∀ b o, s.heap.get? b = some o → h'.get? b = some o) → Q (.ref (s.heap.objs.size + 1)) { s with heap := h' }) :
    wpAny (model prog w) A (call (.type "enumerate") [.ref l]) Q E s := by
  obtain ⟨⟨c, dct, dt, sl⟩, hl, hc, n, hd⟩ := hL
  replace hc : c = .type "tuple" := hc
  replace hd : dt = .seq items n := hd
  subst hc hd
  refine callType_new F.called_enumerate (by decide) (F.typeCall_enumerate_1 _) (F.newCall_enumerate_1 _) (fun obj => F.args_object_init_2 obj _) F.entry_enumerate_new
    (meets_enum_T l items n dct sl) ⟨hl, ?_⟩
  have hz : (s.heap.push { cls := .type "tuple_iterator", data := .fields #[.ref l, .int 0 0] }).objs.size = s.heap.objs.size + 1 := Heap.size_push ..
  show _ ∧ _
  rw [hz]
  have he : IsEnum ((s.heap.push { cls := .type "tuple_iterator", data := .fields #[.ref l, .int 0 0] }).push
      { cls := .type "enumerate", data := .fields #[.none, .bool false, .ref s.heap.objs.size, rawInt 0, .none, .none] }) (s.heap.objs.size + 1) s.heap.objs.size 0 .none := by
    have := Heap.get?_push_size (s.heap.push { cls := .type "tuple_iterator", data := .fields #[.ref l, .int 0 0] })
      (o := { cls := .type "enumerate", data := .fields #[.none, .bool false, .ref s.heap.objs.size, rawInt 0, .none, .none] }) rfl
    rw [hz] at this; exact this
  refine ⟨⟨_, he, rfl⟩, h _ he ⟨_, Heap.get?_push_of_some _ (Heap.get?_push_size _ rfl), rfl, rfl⟩ (by rw [Heap.size_push, hz]) fun b o x => Heap.get?_push_of_some _ (Heap.get?_push_of_some _ x)⟩
def iEnumT (K : PySem.W.Frag) (ta : L2.TA) : TI := fun σ H R => ta σ H fun vs H1 => ∃ a xs, vs = [.ref a] ∧ SqT K H1 a xs ∧ R (IteT K a) H1
theorem pi_enumT {X : Cx} {e : Expr} {ta : L2.TA} {p pos tpos : Pos} {elts : List Expr} {kk : Nat} (hg : Gl X "enumerate") (hm : X.mg "enumerate" = none) (ha : PA X [e] ta) (hs : starEach [e] X.env = [(false, eval e X.env)] := by rfl) :
    PI X (.Tuple elts kk tpos) (.Call (.Name "enumerate" p) [e] [] pos) (iEnumT X.K ta) := by
  refine ⟨fun pins s σ H R I h => ?_⟩
  refine Call_ (ld_blt I hg hm boot_enumerate (PyProof.Rows.callWith_type1 (thn (ha.run pos pins s σ H _ I h) fun us s1 ⟨vs, H1, I1, r1, q1⟩ => ?_) hs rfl))
  obtain ⟨a, xs, ex, hq, q⟩ := q1
  subst ex
  cases r1 with
  | cons r rr =>
    cases rr
    cases r
    obtain ⟨its, rv, p', hz⟩ := I1.tuple hq
    have ha' : a < s1.heap.objs.size := by obtain ⟨o, ho, _⟩ := id p'; exact Heap.lt_size ho
    refine call_enum_tuple p' fun h' he hit hsz hk => wpAny_pyIter_enum he ?_
    have I2 : Inv X pins σ H1 { s1 with heap := h' } := I1.kept (t' := s1.toks) hk
    refine ⟨s1.heap.objs.size + 1, [s1.heap.objs.size + 1, s1.heap.objs.size], _, _, H1, rfl, I2, turn_enumT a (s1.heap.objs.size + 1) s1.heap.objs.size, ⟨⟨.none, he⟩, hit, Nat.succ_ne_self _, Nat.ne_of_gt (Nat.lt_succ_of_lt ha'), Nat.ne_of_gt ha'⟩, fun b hb => ?_, q⟩
    have e' : b = s1.heap.objs.size + 1 ∨ b = s1.heap.objs.size := by simpa using hb
    have hle : s1.heap.objs.size ≤ b := by
      rcases e' with z | z
      · rw [z]; exact Nat.le_add_right _ _
      · rw [z]; exact Nat.le_refl _
    exact I1.fpOk hle (I1.hok.fresh hle)
def enumD (xs : List D) : List D := xs.zipIdx.map fun p => .tup [.int (p.2 : Nat), p.1]
def dEnumT (TB : DTA) : DTI := fun δ G R => TB δ G fun ds G1 => match ds with
  | [.tup xs] => R (enumD xs) (fun _ => True) G1
  | _ => False
theorem di_enumT {X : Cx} {ρ : Rg X.K X.w} {a : Expr} {TB : DTA} {p pos tpos : Pos} {elts : List Expr} {kk : Nat} (hg : Gl X "enumerate") (hm : X.mg "enumerate" = none) (ha : DA X ρ [a] TB) (hs : starEach [a] X.env = [(false, eval a X.env)] := by rfl) :
    DI X ρ (.Tuple elts kk tpos) (.Call (.Name "enumerate" p) [a] [] pos) (dEnumT TB) := by
  refine L2.PI.imp (pi_enumT hg hm (L2.PA.held ha) hs) fun σ H R' ⟨δ, G, R, ab, ds, t, k⟩ => ?_
  refine ⟨δ, G, _, ab, ds, t, fun ds' G1 us H1 q s r n s' pins I => ?_⟩
  split at q
  · rename_i xs
    obtain ⟨v, rfl, d1⟩ := r.inv1
    cases d1 with
    | tup h1 l1 =>
    rename_i a vs
    have el : (enumD xs).length = vs.length := by simp [enumD, l1.length]
    refine ⟨a, vs, rfl, h1, k _ _ G1 _ H1 q s ⟨fun H => SqT X.K H a vs, fun i H v H' => ∃ T x, v = .ref T ∧ H T = none ∧ H' = upd H T (.tup [.int (i : Nat), x]) ∧ vs[i]? = some x, ⟨fun i H hi g => ?_, fun H g => ?_, fun i H x H' hi g y => ?_⟩, ?_, fun H G kp _ _ => kp.tup _ _ h1, fun i H x H' G kp A _ g hi y => ?_⟩⟩
    · rw [el] at hi
      exact ⟨vs, vs[i], g, List.getElem?_eq_getElem hi⟩
    · exact ⟨vs, g, by rw [el]; exact Nat.le_refl _⟩
    · obtain ⟨T, x', e1, e2, e3, e4⟩ := y
      exact ⟨T, x', e1, e2, e3, e4 _ g⟩
    · obtain ⟨_, _, _, z⟩ := I.tuple h1
      rw [el]
      exact z
    · obtain ⟨T, x', rfl, hT, rfl, e4⟩ := y
      obtain ⟨d1, e1, r1⟩ := (l1.mono kp).getV e4
      refine ⟨.tup [.int (i : Nat), d1], ?_, Step.hidden A hT, .tup (.of upd_same) (.cons (.int _) (.one (r1.mono (.alloc hT))))⟩
      unfold enumD
      rw [List.getElem?_map, List.getElem?_zipIdx, e1]
      simp
  · exact q.elim

/-! ### dict(list of pairs) -/
def pairsD : List D → Option (List (D × D))
  | [] => some []
  | .tup [k, v] :: r => (pairsD r).map ((k, v) :: ·)
  | _ :: _ => none
theorem pairsD_map {α : Type} (f g : α → D) : ∀ l : List α, pairsD (l.map fun x => .tup [f x, g x]) = some (l.map fun x => (f x, g x))
  | [] => rfl
  | a :: l => by
    show (pairsD (l.map fun x => .tup [f x, g x])).map ((f a, g a) :: ·) = _
    rw [pairsD_map f g l]
    rfl
def putAll (prs : List (D × D)) (es : List (D × D)) : List (D × D) := prs.foldl (fun acc p => dputE p.1 p.2 acc) es
theorem putAll_snoc (prs : List (D × D)) (p : D × D) (es : List (D × D)) : putAll (prs ++ [p]) es = dputE p.1 p.2 (putAll prs es) := by simp [putAll]
theorem putAll_len : ∀ (prs es : List (D × D)), (putAll prs es).length ≤ es.length + prs.length
  | [], es => Nat.le_refl _
  | p :: prs, es => by
    have h1 := putAll_len prs (dputE p.1 p.2 es)
    have h2 := len_put (k := p.1) (v := p.2) (es := es)
    show (putAll prs (dputE p.1 p.2 es)).length ≤ _
    simp only [List.length_cons]
    omega
theorem putAll_nodup : ∀ (prs es : List (D × D)), (keysE es).Nodup → (keysE (putAll prs es)).Nodup
  | [], es, h => h
  | p :: prs, es, h => putAll_nodup prs (dputE p.1 p.2 es) (nodup_put h)
theorem pairs_vals {K : PySem.W.Frag} {H : Hp} : ∀ {xs : List D} {prs : List (D × D)} {vs : List V}, pairsD xs = some prs → DenL K H xs vs →
    ∃ (Ts : List Addr) (ws : List (V × V)), vs = Ts.map V.ref ∧ Paired (fun T (w : V × V) => SqT K H T [w.1, w.2]) Ts ws ∧ Paired (fun (p : D × D) (w : V × V) => Den K H p.1 w.1 ∧ Den K H p.2 w.2) prs ws
  | [], _, _, e, h => by cases e; cases h; exact ⟨[], [], rfl, .nil, .nil⟩
  | x :: xs, prs, vs, e, h => by
    unfold pairsD at e
    split at e
    · rename_i heq; cases heq
    · rename_i k v r heq
      cases heq
      rw [Option.map_eq_some_iff] at e
      obtain ⟨ps, e, rfl⟩ := e
      cases h with
      | cons h1 h2 =>
      cases h1 with
      | tup hq hl =>
      obtain ⟨v1, v2, rfl, d1, d2⟩ := hl.inv2
      obtain ⟨Ts, ws, rfl, P1, P2⟩ := pairs_vals e h2
      rename_i T
      exact ⟨_ :: Ts, (v1, v2) :: ws, rfl, .cons hq P1, .cons ⟨d1, d2⟩ P2⟩
    · cases e
def rDict : DRC := fun ds G Q => match ds with
  | [.ref a] => (match G a with
    | some (.lst xs) => ob (pairsD xs) fun prs => ((∀ p ∈ prs, keyOk p.1) ∧ xs.length < 16777216) ∧ ∀ p, G p = none → Q (.ref p) (gup G p (.dct (putAll prs [])))
    | _ => False)
  | _ => False
theorem pairsD_len : ∀ {xs : List D} {prs : List (D × D)}, pairsD xs = some prs → prs.length = xs.length
  | [], _, e => by cases e; rfl
  | x :: xs, prs, e => by
    unfold pairsD at e
    split at e
    · rename_i heq; cases heq
    · rename_i k v r heq
      cases heq
      rw [Option.map_eq_some_iff] at e
      obtain ⟨ps, e, rfl⟩ := e
      rw [List.length_cons, List.length_cons, pairsD_len e]
    · cases e
theorem Paired.at2 {α β : Type} {F : α → β → Prop} : ∀ {l₁ : List α} {l₂ : List β} {j : Nat} {y : β}, Paired F l₁ l₂ → l₂[j]? = some y → ∃ x, l₁[j]? = some x ∧ F x y
  | _, _, _, _, .nil, h => by simp at h
  | _, _, 0, _, .cons a _, h => by simp at h; subst h; exact ⟨_, rfl, a⟩
  | _, _, j + 1, y, .cons _ t, h => by
    obtain ⟨x, h1, h2⟩ := Paired.at2 (j := j) (y := y) t (by simpa using h)
    exact ⟨x, by simpa using h1, h2⟩
section
variable {X : Cx}
theorem entR_at {pins : List (Addr × Obj)} {σ : L2.St} {H : Hp} {s : Shared} {h' : Heap} (I : Inv X pins σ H s) (k : ∀ b o, s.heap.get? b = some o → h'.get? b = some o) : ∀ {es : List (D × D)} {raw : List DictEntry}, Paired (EntR X.K X.w H) es raw → Paired (EntK X.w h') (keysE es) raw
  | _, _, .nil => .nil
  | _, _, .cons x t => by
    obtain ⟨v, r1, r2⟩ := x.key
    exact .cons ⟨NestedIs.at (fun a o vs n ho _ => k a o ho) _ _ (Den.nested I _ r2 r1 x.flat), x.hash, x.shallow⟩ (entR_at I k t)
theorem call_dictD (hc : X.calm = true) (hu : X.A.units + 64 < cLine) : CallD X (.type "dict") rDict := by
  intro pins s σ H xs us Q I rx ⟨ds, G, R, A, r, q, k⟩
  have hz : sizeLine = 16777216 := sizeLine_eq
  unfold rDict at q
  split at q
  · rename_i a
    obtain ⟨v, rfl, d1⟩ := r.inv1
    cases d1
    split at q
    · rename_i xs eg
      obtain ⟨prs, ep, ⟨hok, hlen⟩, q⟩ := ob_iff.mp q
      obtain ⟨vs, hv, hl⟩ := A _ _ eg
      obtain ⟨Ts, ws, rfl, P1, P2⟩ := pairs_vals ep hl
      rw [Vals.ref1 rx]
      obtain ⟨its, rv, ⟨o, n, ho, hcl, hdn, hdt⟩, hzz⟩ := I.list (.of hv)
      have ei := refs_at rv
      subst ei
      have lTs : Ts.length = prs.length := by rw [Paired.len P1, Paired.len P2]
      have lpr := pairsD_len ep
      -- the pairs as values
      have hps : ∃ ps : List (Value × Value), Paired (fun (w : V × V) (p : Value × Value) => RelV w.1 p.1 ∧ RelV w.2 p.2) ws ps ∧ Paired (fun T (p : Value × Value) => s.heap.IsTuple T #[p.1, p.2]) Ts ps := by
        clear P2 hv hl rx rv hzz hdt lTs
        induction P1 with
        | nil => exact ⟨[], .nil, .nil⟩
        | cons h t ih =>
          obtain ⟨ps, i1, i2⟩ := ih
          obtain ⟨its, r', pt, _⟩ := I.tuple h
          obtain ⟨u1, u2, rfl, r1, r2⟩ := vals2 r'
          exact ⟨(u1, u2) :: ps, .cons ⟨r1, r2⟩ i1, .cons pt i2⟩
      obtain ⟨ps, V1, V2⟩ := hps
      have lps : ps.length = prs.length := by rw [← Paired.len V1, ← Paired.len P2]
      have PA := PairArg.list (prog := X.prog) (w := X.w) a (Ts.map Value.ref).toArray (fun j => Ts.getD j 0) ps
      have ok : PlainSeq "list" s.heap a (Ts.map Value.ref).toArray ∧ PairItems s.heap (Ts.map Value.ref).toArray (fun j => Ts.getD j 0) ps := by
        refine ⟨⟨o, n, ho, hcl, hdn, hdt⟩, by simp [lTs, lps], fun j kk vv hj => ?_⟩
        obtain ⟨T, e1, e2⟩ := Paired.at2 V2 hj
        have e3 : Ts.getD j 0 = T := by rw [List.getD_eq_getElem?_getD, e1]; rfl
        refine ⟨?_, ?_⟩
        · simp [e1]
        · show PairAt s.heap (Ts.getD j 0) kk vv
          rw [e3]
          exact .inl e2
      refine call_dict_arg PA ok fun s₁ hs₁ hdf ok₁ => ?_
      subst hs₁
      have hfresh : H s.heap.objs.size = none := I.fresh
      have hns : (s.heap.objs.size == sysModules) = false := beq_eq_false_iff_ne.mpr (Nat.ne_of_gt I.big)
      refine updateFrom_arg (A := X.A.in1) (Tab := fun i h => ∃ raw, DictRaw s.heap.objs.size raw h ∧ Paired (EntR X.K X.w H) (putAll (prs.take i) []) raw ∧ ∀ b o, s.heap.get? b = some o → h.get? b = some o) PA .none (I.ok.hd hc) ok₁ hdf
        ⟨[], ⟨_, #[], 0, Heap.get?_push_size _ rfl, ⟨rfl, rfl, rfl⟩, rfl, rfl⟩, .nil, fun b o e => Heap.get?_push_of_some _ e⟩ (fun i h ⟨raw, ⟨o, _, _, e, _⟩, _⟩ => Heap.lt_size e) ?_ ?_ ?_
      · rintro i h h' wr' hd hw ⟨raw, ⟨o, es, ep', e1, e2⟩, e3, e4⟩ hk
        refine ⟨raw, ⟨o, es, ep', hk _ _ hd e1, e2⟩, e3, fun b o e => hk b o (fun hm => ?_) (e4 b o e)⟩
        rcases hw b hm with z | z
        · cases z
        · have z2 : (s.heap.push { cls := .type "dict", data := .dict #[] }).get? b = some o := Heap.get?_push_of_some _ e
          rw [show (s.heap.push { cls := .type "dict", data := .dict #[] }).get? b = none from z] at z2
          cases z2
      · rintro i kk vv s' Q' E' hi hrel ⟨raw, hr, Pr, keep⟩ _ hQ
        have hrel' : ps[i]? = some (kk, vv) := hrel
        obtain ⟨ww, ew, rk, rvv⟩ := Paired.at2 V1 hrel'
        obtain ⟨pr, epr, dk, dv⟩ := Paired.at2 P2 ew
        have okk : keyOk pr.1 := hok pr (List.mem_of_getElem? epr)
        have nk : NestedIs s'.heap (keyD pr.1) kk := NestedIs.at (fun a o vs n ho _ => keep a o ho) _ _ (Den.nested I _ dk rk okk.1)
        have nd : (keysE (putAll (prs.take i) [])).Nodup := putAll_nodup _ _ List.nodup_nil
        obtain ⟨o', es', ep', e1, e2, e3, e4⟩ := id hr
        have D0 : DAt X.w s'.heap s.heap.objs.size (keysE (putAll (prs.take i) [])) raw := ⟨o', es', ep', e1, e2, e3, e4, entR_at I keep Pr, nd⟩
        have pr2 := put_raw Pr okk ⟨_, rk, dk⟩ ⟨_, rvv, dv⟩
        have hlen2 : raw.length ≤ sizeLine := by
          rw [len_raw Pr]
          have := putAll_len (prs.take i) []
          simp only [List.length_take, List.length_nil] at this
          omega
        have etake : prs.take (i + 1) = prs.take i ++ [pr] := by rw [List.take_add_one, epr]; rfl
        have keep' : ∀ h' : Heap, Heap.SameBut s.heap.objs.size s'.heap h' → ∀ b o, s.heap.get? b = some o → h'.get? b = some o := fun h' hs b o e => (hs.2 b (Nat.ne_of_lt (Heap.lt_size e))).trans (keep b o e)
        refine dSet_n (A := X.A.in1.in1) (by rw [units_in1, units_in1]; omega) nk okk.2 D0 hlen2 (fun hno h' a' b' => ?_) fun j hj h' a' b' => ?_
        · refine hQ h' _ ⟨_, a', ?_, keep' h' b'⟩ b'
          rw [etake, putAll_snoc]
          exact pr2.1 hno
        · refine hQ h' _ ⟨_, a', ?_, keep' h' b'⟩ b'
          rw [etake, putAll_snoc]
          exact pr2.2 j nd hj
      · rintro h' tk ⟨raw, hr, Pr, keep⟩ hk
        have et : prs.take ps.length = prs := List.take_of_length_le (by omega)
        rw [et] at Pr
        refine ⟨rfl, .ref s.heap.objs.size, _, I.laid (t' := tk) keep (Nat.le_refl _) (ext_ok hr), rfl, ?_⟩
        have kp : Kp X.K H (upd H s.heap.objs.size (dictO s.heap.objs.size raw)) := .alloc hfresh
        exact k _ _ _ _ (q _ (A.none hfresh)) (Step.alloc (o := .dct (putAll prs [])) A hfresh ⟨hns, putAll_nodup _ _ List.nodup_nil, raw, upd_same, Paired.mapP Pr fun p x z => z.mono kp⟩) (.ref _)
    · exact q.elim
  · exact q.elim
end

/-! ### max of a list -/
def maxD (x : D) (xs : List D) : D := xs.foldl (fun a y => if (ordD .gt y a).getD false = true then y else a) x
def rMax1 : DRC := fun ds G Q => match ds with
  | [.ref a] => (match G a with
    | some (.lst (x :: xs)) => ((∀ y ∈ x :: xs, flat y = true ∧ dpP (toP y) ≤ 60) ∧ ∀ y ∈ x :: xs, ∀ z ∈ x :: xs, (ordD .gt y z).isSome = true) ∧ Q (maxD x xs) G
    | _ => False)
  | _ => False
theorem call_max1D {X : Cx} (hc : X.calm = true) (hu : X.A.units + 64 < cLine) : CallD X (.builtin "max") rMax1 := by
  intro pins s σ H xs us Q I rx ⟨ds, G, R, A, r, q, k⟩
  unfold rMax1 at q
  split at q
  · rename_i a
    obtain ⟨v, rfl, d1⟩ := r.inv1
    cases d1
    split at q
    · rename_i x xs eg
      obtain ⟨⟨hf, ho⟩, q⟩ := q
      obtain ⟨vs, hv, hl⟩ := A _ _ eg
      rw [Vals.ref1 rx]
      obtain ⟨its, rv, pl, hzz⟩ := I.list (.of hv)
      have fl : flats (x :: xs) = true := by
        have : ∀ l : List D, (∀ y ∈ l, flat y = true) → flats l = true := by
          intro l
          induction l with
          | nil => intro _; rfl
          | cons y l ih => intro h; rw [flats, h y List.mem_cons_self, ih fun z hz => h z (List.mem_cons_of_mem _ hz)]; rfl
        exact this _ fun y hy => (hf y hy).1
      have dl := DenL.dis I _ hl rv fl
      have hn : its.length = xs.length + 1 := by simpa using dl.length
      have hget : ∀ j, j < its.length → (x :: xs).getD j .non ∈ x :: xs := fun j hj => by
        have hj' : j < (x :: xs).length := by rw [List.length_cons]; omega
        rw [List.getD_eq_getElem?_getD, List.getElem?_eq_getElem hj']
        exact List.getElem_mem hj'
      refine call_max_walkH (W.iter_listW (A := X.A.in1) (I.ok.hd hc) pl.isList fun s₂ e Wk st hfp hw hk => ?_)
      refine ⟨_, _, _, _, _, _, _, s.heap, fun i j => (ordD .gt ((x :: xs).getD i .non) ((x :: xs).getD j .non)).getD false, rfl, Wk, st, hfp, by simp only [List.size_toArray]; omega, hw, hk, fun i j vi vj s' Q' E' keep hi hj hq => ?_, fun v s' hP m => ?_⟩
      · have hi' : its[i]? = some vi := by simpa using hi
        have hj' : its[j]? = some vj := by simpa using hj
        obtain ⟨li, ei⟩ := List.getElem?_eq_some_iff.mp hi'
        obtain ⟨lj, ej⟩ := List.getElem?_eq_some_iff.mp hj'
        have di := DIsL.at i dl li
        have dj := DIsL.at j dl lj
        rw [ei] at di
        rw [ej] at dj
        obtain ⟨b, eb⟩ := Option.isSome_iff_exists.mp (ho _ (hget i li) _ (hget j lj))
        have hb : (ordD .gt ((x :: xs).getD i .non) ((x :: xs).getD j .non)).getD false = b := by rw [eb]; rfl
        (try dsimp only at hq)
        rw [hb] at hq
        refine rcOp_D (s := s') .gt 4 _ _ b X.A.in1 eb (di.keeps fun b o _ e => keep b o e) (dj.keeps fun b o _ e => keep b o e) ?_ X.prog X.w E' Q' hq
        have := (hf _ (hget i li)).2
        rw [units_in1]
        omega
      · obtain ⟨h', tk, rfl, hk'⟩ := W.moved_old e rfl m
        have hP' : its[argBest (fun i j => (ordD .gt ((x :: xs).getD i .non) ((x :: xs).getD j .non)).getD false) (its.toArray.size - 1)]? = some v := by simpa using hP
        obtain ⟨w, ew, rw'⟩ := Paired.at2 rv hP'
        obtain ⟨d, ed, dd⟩ := hl.getV ew
        have e1 : its.toArray.size - 1 = xs.length := by simp only [List.size_toArray]; omega
        have e2 := (W.argBest_fold (fun a b => (ordD .gt a b).getD false) D.non x xs xs.length (Nat.le_refl _)).2
        rw [List.take_length] at e2
        rw [e1] at ed
        rw [List.getD_eq_getElem?_getD, ed] at e2
        have e3 : d = maxD x xs := e2
        subst e3
        exact ⟨w, H, I.kept (t' := tk) hk', rw', k _ G _ H q (.refl A) dd⟩
    · exact q.elim
  · exact q.elim
end DD

/-! D-layer 12b: the keys of a dict, whatever they are, one behind the other -/
namespace DD
open PySem PySem.Spec PyProof.Rows L2 PySem.W PySem.Calls
/-- a dict's very entries, at an epoch -/
def RawE (a : Addr) (raw : List DictEntry) (ep : Nat) (h : Heap) : Prop := ∃ (o : Obj) (es : Array DictEntry), h.get? a = some o ∧ o.ExactDict ∧ o.data = .dict es ep ∧ es.toList = raw
theorem RawE.keep {a : Addr} {raw : List DictEntry} {ep : Nat} {h h' : Heap} (x : RawE a raw ep h) (k : ∀ o, h.get? a = some o → h'.get? a = some o) : RawE a raw ep h' := by
  obtain ⟨o, es, e, r⟩ := x
  exact ⟨o, es, k o e, r⟩
theorem RawE.ty {a : Addr} {raw : List DictEntry} {ep : Nat} {t : Shared} (x : RawE a raw ep t.heap) : t.TypeIs (.ref a) "dict" := by
  obtain ⟨o, _, e, c, _⟩ := x
  exact ⟨o, e, c.1⟩
theorem RawE.lt {a : Addr} {raw : List DictEntry} {ep : Nat} {h : Heap} (x : RawE a raw ep h) : a < h.objs.size := by
  obtain ⟨o, _, e, _⟩ := x
  exact Heap.lt_size e
section
variable {P : Program} {w : World} {B : Around} {EE : Value → Shared → Prop} {t : Shared} {a it : Addr} {raw : List DictEntry} {ep i : Nat}
theorem iter_raw {R : Value → Shared → Prop} (lo : (a == sysModules) = false) (x : RawE a raw ep t.heap)
    (q : R (.ref t.heap.objs.size) { t with heap := t.heap.push { cls := .type "dict_keyiterator", data := .fields #[.ref a, .int 0 0, .int raw.length 0, .int ep 0] } }) :
    wpAny (model P w) B (pyIter (.ref a)) R EE t := by
  have ty := x.ty
  obtain ⟨o, es, ho, hc, hdt, hr⟩ := x
  refine wpAny_pyIter_slot ty F.slot_dict_iter (wpAny_call_entry F.slot_dict_iter ty F.entry_dict_iter ?_ (F.args_dict_iter_1 _))
  unfold Builtin.«dict.__iter__»
  refine wpAny_bind ?_
  unfold Builtin.Dict.dictSlotNone
  refine wpAny_bind (wpAny_notOrdered_dict ty ?_)
  show wpAny _ _ (pure (Value.ref a)) _ _ t
  refine wpAny_pure ?_
  show wpAny _ _ (Builtin.Dict.showsAll a >>= _) _ _ t
  unfold Builtin.Dict.showsAll
  rw [if_neg (by rw [lo]; exact Bool.false_ne_true)]
  refine wpAny_bind (wpAny_pure ?_)
  refine wpAny_bind (wpAny_dictEntries ho hdt ?_)
  refine wpAny_bind (wpAny_dictEpoch ho hdt ?_)
  have n1 : es.size = raw.length := by rw [← hr, Array.length_toList]
  refine wpAny_bind (wpAny_newObj_type (wpAny_pure ⟨_, rfl, "dict_keyiterator", _, ⟨_, Heap.get?_push_size _ rfl, rfl⟩, F.slot_dict_keyiterator_next.lookup, ?_⟩))
  simpa [rawInt, n1] using q
theorem next_raw {R : Option Value → Shared → Prop} {e : DictEntry} (hi : t.heap.IsKeyIter it a i raw.length ep) (x : RawE a raw ep t.heap) (he : raw[i]? = some e)
    (q : ∀ h', h'.IsKeyIter it a (i + 1) raw.length ep → Heap.SameBut it t.heap h' → R (some e.key) { t with heap := h' }) :
    wpAny (model P w) B (pyNext (.ref it)) R EE t := by
  have ty := hi.typeIs
  obtain ⟨oi, gi, ci, di⟩ := hi
  obtain ⟨o, es, ho, hc, hdt, hr⟩ := x
  unfold pyNext
  refine wpAny_bind (wpAny_attempt (wpAny_callSpecial?_slot (name := Str.ofString "__next__") ty F.slot_dict_keyiterator_next (wpAny_call_entry F.slot_dict_keyiterator_next ty F.entry_dict_keyiterator_next ?_ (F.args_dict_keyiterator_next_1 _))))
  refine wpAny_bind (wpAny_pure ?_)
  refine wpAny_bind ?_
  refine wpAny_bind ?_
  first | refine wpAny_bind (wpAny_typeNameOfWhole_keyiter ty (wpAny_pure ?_)) | refine wpAny_bind (wpAny_typeNameOf_keyiter ty (wpAny_pure ?_))
  refine wpAny_bind (wpAny_fieldsOf gi di ?_)
  have own : Builtin.Dict_items.ownsTuple "dict_keyiterator" = false := by decide
  simp only [own, Bool.false_eq_true, if_false]
  show wpAny _ _ (if (Value.ref a == Value.none) = true then _ else _) _ _ t
  rw [if_neg (show ¬ ((Value.ref a == Value.none) = true) from Bool.false_ne_true)]
  refine wpAny_bind (wpAny_pure ?_)
  refine wpAny_bind (wpAny_dictEntries ho hdt ?_)
  have n1 : es.size = raw.length := by rw [← hr, Array.length_toList]
  rw [if_neg (by rw [n1]; simp)]
  refine wpAny_bind (wpAny_pure ?_)
  refine wpAny_bind (wpAny_dictEpoch ho hdt ?_)
  rw [if_neg (by simp)]
  refine wpAny_pure ?_
  have l1 : i < es.size := by rw [n1]; exact (List.getElem?_eq_some_iff.mp he).1
  have ek : es[i] = e := by
    have z : es.toList[i]? = some e := by rw [hr]; exact he
    rw [Array.getElem?_toList, Array.getElem?_eq_getElem l1] at z
    exact Option.some.inj z
  simp only [show ¬ ((i : Int) < 0) from by omega, if_false, Int.toNat_natCast, Array.getElem?_eq_getElem l1, ek]
  refine wpAny_bind ?_
  first | refine wpAny_bind (wpAny_typeNameOfWhole_keyiter ty (wpAny_pure ?_)) | refine wpAny_bind (wpAny_typeNameOf_keyiter ty (wpAny_pure ?_))
  refine wpAny_bind (wpAny_isOneOf_keyiter ty ?_)
  show wpAny _ _ (setField (.ref it) 1 (rawInt ((i : Int) + 1)) >>= _) _ _ t
  refine wpAny_bind (wpAny_setField gi di (by simp) ?_)
  have later : (t.heap.update it (Obj.mapFields (·.setIfInBounds 1 (rawInt ((i : Int) + 1))))).IsKeyIter it a (i + 1) raw.length ep :=
    ⟨_, Heap.get?_update_self _ gi (Obj.isFreed_of_fields (Obj.data_mapFields di _)), (Obj.cls_mapFields ..).trans ci, by rw [Obj.data_mapFields di]; simp [rawInt]⟩
  refine wpAny_bind (wpAny_holding ?_)
  refine wpAny_bind (wpAny_isOneOf_keyiter (s := { t with heap := t.heap.update it (Obj.mapFields (·.setIfInBounds 1 (rawInt ((i : Int) + 1)))) }) later.typeIs ?_)
  show wpAny _ _ (pure e.key) _ _ _
  exact wpAny_pure (wpAny_pure ⟨_, rfl, wpAny_pure (q _ later (Heap.SameBut.update ..))⟩)
theorem end_raw {R : Option Value → Shared → Prop} (nh : B.handled = none) (hi : t.heap.IsKeyIter it a raw.length raw.length ep) (x : RawE a raw ep t.heap)
    (q : ∀ h', Heap.ExtBut it t.heap h' → R none { t with heap := h' }) : wpAny (model P w) B (pyNext (.ref it)) R EE t := by
  have ty := hi.typeIs
  obtain ⟨oi, gi, ci, di⟩ := hi
  obtain ⟨o, es, ho, hc, hdt, hr⟩ := x
  unfold pyNext
  refine wpAny_bind (wpAny_attempt (wpAny_callSpecial?_slot (name := Str.ofString "__next__") ty F.slot_dict_keyiterator_next (wpAny_call_entry F.slot_dict_keyiterator_next ty F.entry_dict_keyiterator_next ?_ (F.args_dict_keyiterator_next_1 _))))
  refine wpAny_bind (wpAny_pure ?_)
  refine wpAny_bind ?_
  refine wpAny_bind ?_
  first | refine wpAny_bind (wpAny_typeNameOfWhole_keyiter ty (wpAny_pure ?_)) | refine wpAny_bind (wpAny_typeNameOf_keyiter ty (wpAny_pure ?_))
  refine wpAny_bind (wpAny_fieldsOf gi di ?_)
  have own : Builtin.Dict_items.ownsTuple "dict_keyiterator" = false := by decide
  simp only [own, Bool.false_eq_true, if_false]
  show wpAny _ _ (if (Value.ref a == Value.none) = true then _ else _) _ _ t
  rw [if_neg (show ¬ ((Value.ref a == Value.none) = true) from Bool.false_ne_true)]
  refine wpAny_bind (wpAny_pure ?_)
  refine wpAny_bind (wpAny_dictEntries ho hdt ?_)
  have n1 : es.size = raw.length := by rw [← hr, Array.length_toList]
  rw [if_neg (by rw [n1]; simp)]
  refine wpAny_bind (wpAny_pure ?_)
  refine wpAny_bind (wpAny_dictEpoch ho hdt ?_)
  rw [if_neg (by simp)]
  refine wpAny_pure ?_
  have ge : es.size ≤ raw.length := by omega
  simp only [show ¬ (((raw.length : Nat) : Int) < 0) from by omega, if_false, Int.toNat_natCast, Array.getElem?_eq_none ge]
  refine wpAny_bind ?_
  first | refine wpAny_bind (wpAny_typeNameOfWhole_keyiter ty (wpAny_pure ?_)) | refine wpAny_bind (wpAny_typeNameOf_keyiter ty (wpAny_pure ?_))
  show wpAny _ _ (setField (.ref it) 0 .none >>= _) _ _ t
  refine wpAny_bind (wpAny_setField gi di (by simp) ?_)
  show wpAny _ _ (newExc (.type "StopIteration") [] >>= _) _ _ _
  refine wpAny_bind ?_
  simp only [newExc, newTuple]
  refine wpAny_bind (wpAny_newObj_type ?_ (by size_fits))
  refine wpAny_bind (m := firstArgMember _ _) (wpAny_of_eq (a := Value.none) (by first | rfl | (simp only [firstArgMember]; rfl)) ?_)
  refine wpAny_newObj_type ?_ (by size_fits)
  simp only [raiseNew]
  refine wpAny_bind (wpAny_handled ?_)
  rw [show B.in1.handled = none from nh]
  refine wpAny_bind (wpAny_pure (wpAny_throw ?_))
  refine wpAny_bind (wpAny_isInstance (T := "StopIteration") (b := true) ⟨_, Heap.get?_push_size _ rfl, rfl⟩ isSubtype_stop ?_)
  exact wpAny_pure (q _ (((Heap.SameBut.update ..).extBut.push _).push _))
theorem walks_raw (nh : B.handled = none) (I d : Addr) (ne : d ≠ I) (raw : List DictEntry) (ep : Nat) :
    Walks P w B I [I, d] [I] raw.length (fun i v => ∃ e, raw[i]? = some e ∧ v = e.key) (fun i h => h.IsKeyIter I d i raw.length ep ∧ RawE d raw ep h) where
  sub := fun b hb => by simp at hb; simp [hb]
  frame := fun _ _ _ st k => ⟨st.1.at fun o e => k I (by simp) o e, st.2.keep fun o e => k d (by simp) o e⟩
  item := fun i s Q E hi st hQ => by
    obtain ⟨e, he⟩ : ∃ p, raw[i]? = some p := ⟨raw[i], by simp [hi]⟩
    refine next_raw st.1 st.2 he fun h' later same => ?_
    exact hQ e.key h' s.toks ⟨e, he, rfl⟩ ⟨later, st.2.keep fun o e => same.extBut d o ne e⟩ fun b o hb e => same.extBut b o (fun h => hb (by simp [h])) e
  done := fun s Q E st hQ => end_raw nh st.1 st.2 fun h' he' => hQ h' s.toks fun b o hb e => he' b o (fun h => hb (by simp [h])) e
  self := fun _ _ _ _ st hQ => wpAny_pyIter_keyiter st.1 hQ
theorem src_raw (lo : (a == sysModules) = false) : KdlSrc P w "dict" a a raw.length (fun i v => ∃ e, raw[i]? = some e ∧ v = e.key) (fun h => RawE a raw ep h) where
  type := fun _ x => x.ty
  there := fun _ x => ⟨x.lt, x.lt⟩
  keep := fun _ _ x k => x.keep fun o e => k a (.inl rfl) o e
  notList := by decide
  notTuple := by decide
  hint := fun _ _ _ _ x q => kdl_hint_dict x.ty q
  iter := fun _ _ nh x => ⟨_, _, (fun _ _ q => iter_raw lo x q), walks_raw nh _ a (Nat.ne_of_lt x.lt) raw ep, ⟨⟨_, Heap.get?_push_size _ rfl, rfl, rfl⟩, x.keep fun o e => Heap.get?_push_of_some _ e⟩⟩
theorem items_keys {acc : Array Value} (h : ItemsOf (fun i v => ∃ e, raw[i]? = some e ∧ v = DictEntry.key e) acc raw.length) : acc.toList = raw.map DictEntry.key := by
  apply List.ext_getElem?
  intro j
  by_cases l : j < acc.size
  · have e1 : acc.toList[j]? = some acc[j] := by rw [Array.getElem?_toList, Array.getElem?_eq_getElem l]
    obtain ⟨e, h1, h2⟩ := h.2 j acc[j] (by rw [Array.getElem?_eq_getElem l])
    rw [e1, List.getElem?_map, h1, h2]
    rfl
  · have l2 : ¬ j < raw.length := by rw [← h.1]; exact l
    rw [List.getElem?_eq_none (by rw [Array.length_toList]; omega), List.getElem?_eq_none (by rw [List.length_map]; omega)]
end
end DD

/-! D-layer 13: sorted lists of stamps -/
namespace DD
open PySem PySem.Spec PyProof.Rows L2 SeqAt SrtO Srt
abbrev Stp := Int × Str
def encS (p : Stp) : D := .tup [.int p.1, .str p.2]
def ltS (p q : Stp) : Bool := if p.1 = q.1 then decide (p.2.cps.toList < q.2.cps.toList) else decide (p.1 < q.1)
theorem str_ext {x y : Str} (h : x.cps.toList = y.cps.toList) : x = y := by
  cases x; cases y
  simp only [Array.toList_inj] at h
  simp [h]
theorem ord_stamp (p q : Stp) : ordD .lt (encS p) (encS q) = some (ltS p q) := by
  obtain ⟨a, x⟩ := p
  obtain ⟨b, y⟩ := q
  have e : ordD .lt (encS (a, x)) (encS (b, y)) = some (if eqP (.num a) (.num b) = true then (if eqP (.text x) (.text y) = true then decide ((0:Nat) < 0) else decide (x.cps.toList < y.cps.toList)) else decide (a < b)) := rfl
  rw [e]
  unfold ltS
  congr 1
  by_cases h : a = b
  · subst h
    have e1 : eqP (.num a) (.num a) = true := eqP_self _
    rw [if_pos e1, if_pos rfl]
    by_cases h2 : x = y
    · subst h2
      have e2 : eqP (.text x) (.text x) = true := eqP_self _
      rw [if_pos e2]
      have : ¬ x.cps.toList < x.cps.toList := List.lt_irrefl _
      simp [this]
    · have e2 : ¬ eqP (.text x) (.text y) = true := by
        intro z
        have : (x == y) = true := z
        exact h2 (by simpa using this)
      rw [if_neg e2]
  · have e1 : ¬ eqP (.num a) (.num b) = true := by
      intro z
      have : (a == b) = true := z
      exact h (by simpa using this)
    rw [if_neg e1, if_neg h]
theorem ltS_iff {p q : Stp} : ltS p q = true ↔ p.1 < q.1 ∨ (p.1 = q.1 ∧ p.2.cps.toList < q.2.cps.toList) := by
  unfold ltS
  by_cases e : p.1 = q.1
  · rw [if_pos e, decide_eq_true_eq]
    constructor
    · exact fun h => .inr ⟨e, h⟩
    · rintro (h | h)
      · omega
      · exact h.2
  · rw [if_neg e, decide_eq_true_eq]
    constructor
    · exact fun h => .inl h
    · rintro (h | h)
      · exact h
      · exact absurd h.1 e
theorem ltS_no {p q : Stp} : ltS p q = false ↔ q.1 < p.1 ∨ (q.1 = p.1 ∧ ¬ p.2.cps.toList < q.2.cps.toList) := by
  rw [Bool.eq_false_iff, ne_eq, ltS_iff]
  constructor
  · intro h
    by_cases e : q.1 = p.1
    · exact .inr ⟨e, fun z => h (.inr ⟨e.symm, z⟩)⟩
    · refine .inl ?_
      have : ¬ p.1 < q.1 := fun z => h (.inl z)
      omega
  · rintro (h | ⟨h, z⟩) (h' | ⟨h', z'⟩)
    · omega
    · omega
    · omega
    · exact z z'
theorem ltS_asym {p q : Stp} (h : ltS p q = true) : ltS q p = false := by
  rcases ltS_iff.mp h with a | ⟨a, b⟩
  · exact ltS_no.mpr (.inl a)
  · exact ltS_no.mpr (.inr ⟨a, fun c => List.lt_irrefl _ (List.lt_trans b c)⟩)
theorem ltS_tr {p q r : Stp} (h1 : ltS q p = false) (h2 : ltS r q = false) : ltS r p = false := by
  rcases ltS_no.mp h1 with a | ⟨a, b⟩
  · rcases ltS_no.mp h2 with c | ⟨c, d⟩
    · exact ltS_no.mpr (.inl (by omega))
    · exact ltS_no.mpr (.inl (by omega))
  · rcases ltS_no.mp h2 with c | ⟨c, d⟩
    · exact ltS_no.mpr (.inl (by omega))
    · exact ltS_no.mpr (.inr ⟨by omega, List.le_trans (show p.2.cps.toList ≤ q.2.cps.toList from b) (show q.2.cps.toList ≤ r.2.cps.toList from d)⟩)
theorem ltS_anti {p q : Stp} (h1 : ltS p q = false) (h2 : ltS q p = false) : p = q := by
  rcases ltS_no.mp h1 with a | ⟨a, b⟩
  · rcases ltS_no.mp h2 with c | ⟨c, d⟩
    · omega
    · omega
  · rcases ltS_no.mp h2 with c | ⟨c, d⟩
    · omega
    · obtain ⟨n, x⟩ := p
      obtain ⟨m, y⟩ := q
      simp only at a b c d
      subst a
      rw [str_ext (List.le_antisymm (show x.cps.toList ≤ y.cps.toList from d) (show y.cps.toList ≤ x.cps.toList from b))]
theorem swo_ltS (k : Value → Stp) : Swo fun v u => ltS (k v) (k u) := ⟨fun x y h => ltS_asym h, fun x y z h1 h2 => ltS_tr h1 h2⟩
/-- sorted stamps -/
def sortS (l : List Stp) : List Stp := l.mergeSort fun a b => !ltS b a
theorem sortS_perm (l : List Stp) : (sortS l).Perm l := List.mergeSort_perm l _
theorem sortS_srt (l : List Stp) : (sortS l).Pairwise fun a b => ltS b a = false := by
  have h := List.pairwise_mergeSort (le := fun a b : Stp => !ltS b a) (fun a b c h1 h2 => by
    simp only [Bool.not_eq_true'] at h1 h2 ⊢
    exact ltS_tr h1 h2) (fun a b => by
    cases e : ltS b a with
    | false => simp
    | true => simp [ltS_asym e]) l
  exact h.imp fun {a b} z => by simpa using z
theorem srt_uniq : ∀ {l m : List Stp}, l.Pairwise (fun a b => ltS b a = false) → m.Pairwise (fun a b => ltS b a = false) → l.Perm m → l = m
  | [], m, _, _, h => (List.Perm.eq_nil h.symm).symm
  | x :: l, [], _, _, h => absurd h.length_eq (by simp)
  | x :: l, y :: m, hl, hm, h => by
    have h1 : ltS x y = false := by
      rcases List.mem_cons.mp (h.mem_iff.mp (List.mem_cons_self (a := x) (l := l))) with e | hx
      · rw [e]
        cases z : ltS y y with
        | false => rfl
        | true => rw [ltS_asym z] at z; cases z
      · exact (List.pairwise_cons.mp hm).1 x hx
    have h2 : ltS y x = false := by
      rcases List.mem_cons.mp (h.mem_iff.mpr (List.mem_cons_self (a := y) (l := m))) with e | hy
      · rw [e]
        cases z : ltS x x with
        | false => rfl
        | true => rw [ltS_asym z] at z; cases z
      · exact (List.pairwise_cons.mp hl).1 y hy
    have e := ltS_anti h1 h2
    subst e
    rw [srt_uniq (List.pairwise_cons.mp hl).2 (List.pairwise_cons.mp hm).2 h.cons_inv]
theorem sortS_eq {l m : List Stp} (h : m.Perm l) (hs : m.Pairwise fun a b => ltS b a = false) : sortS l = m := srt_uniq (sortS_srt l) hs ((sortS_perm l).trans h.symm)
section
variable {prog : Program} {w : World} {A : Around} {E : Value → Shared → Prop} {s : Shared}
theorem dis_stamp {h : Heap} {p : Stp} {v : Value} (x : DIs h (encS p) v) : ∃ a o n t u, v = .ref a ∧ h.get? a = some o ∧ o.cls = .type "tuple" ∧ o.data = .seq #[.int p.1 t, .str p.2 u] n := by
  unfold encS at x
  cases x with
  | tup h1 h2 h3 h4 =>
  rename_i a o vs n
  cases vs with
  | mk l =>
  simp only at h4
  cases h4 with
  | cons x1 h4 =>
  cases h4 with
  | cons x2 h4 =>
  cases h4
  cases x1
  cases x2
  exact ⟨_, _, _, _, _, rfl, h1, h2, h3⟩
theorem stamp_inj {h : Heap} {p q : Stp} {v : Value} (x : DIs h (encS p) v) (y : DIs h (encS q) v) : p = q := by
  obtain ⟨a, o, n, t, u, e1, e2, e3, e4⟩ := dis_stamp x
  obtain ⟨a', o', n', t', u', f1, f2, f3, f4⟩ := dis_stamp y
  rw [e1] at f1
  cases f1
  rw [e2] at f2
  cases f2
  rw [e4] at f4
  injection f4 with g1 g2
  have g := congrArg Array.toList g1
  simp only [List.cons.injEq, Value.int.injEq, Value.str.injEq] at g
  exact Prod.ext g.1.1 g.2.1.1
theorem stamp_cmp {vs : List Value} {k : Value → Stp} (hp : ∀ v ∈ vs, DIs s.heap (encS (k v)) v) : Cmp prog w A s (tuples' true) (fun p => p.1 ∈ vs) (lt2 fun v u => ltS (k v) (k u)) := by
  intro p q hm hm'
  have h1 := hp _ hm
  have h2 := hp _ hm'
  show wpAny (model prog w) A (keyLt' (tuples' true) p.1 q.1) (fun r s' => s' = s ∧ r = ltS (k p.1) (k q.1)) (fun _ _ => False) s
  obtain ⟨a, o, n, t, u, e, ho, hc, hd⟩ := dis_stamp h1
  obtain ⟨a', o', n', t', u', e', ho', hc', hd'⟩ := dis_stamp h2
  generalize k p.1 = P at *
  generalize k q.1 = P' at *
  obtain ⟨x, y⟩ := P
  obtain ⟨x', y'⟩ := P'
  simp only at hd hd'
  rw [e, e']
  refine PySem.W.kat_lt ho hd ho' hd' ?_
  show PySem.W.KatLex prog w A true (decide (2 < 2)) _ [(.int x t, .int x' t'), (.str y u, .str y' u')] 0 s
  refine PySem.W.kat_cons (SeqAt.EqAt.int_int x t x' t' prog w _ _ ?_)
  refine PySem.W.kat_go (fun e1 => ?_) (fun e1 => ?_)
  · have ex : x = x' := by simpa using e1
    refine PySem.W.kat_yes (PySem.W.kat_cons (SeqAt.EqAt.str_str y u y' u' prog w _ _ ?_))
    refine PySem.W.kat_go (fun e2 => ?_) (fun e2 => ?_)
    · have ey : y = y' := by simpa using e2
      refine PySem.W.kat_yes (PySem.W.kat_nil ⟨rfl, ?_⟩)
      unfold ltS
      rw [if_pos ex, ey]
      exact (decide_eq_false (List.lt_irrefl _)).symm
    · refine PySem.W.kat_no (PySem.W.kat_one _ _ (PyProof.Rows.lt_str ?_))
      have e3 : ltS (x, y) (x', y') = decide (y.cps.toList < y'.cps.toList) := by
        unfold ltS
        exact if_pos ex
      exact (show s = s ∧ decide (y.cps.toList < y'.cps.toList) = ltS (x, y) (x', y') from ⟨rfl, e3.symm⟩)
  · have ex : ¬ x = x' := by simpa using e1
    have e3 : ltS (x, y) (x', y') = decide (x < x') := by
      unfold ltS
      exact if_neg ex
    exact PySem.W.kat_no (oneLt_int ⟨rfl, e3.symm⟩)
theorem firsts_stamp {h : Heap} {k : Value → Stp} : ∀ {vs : List Value}, (∀ v ∈ vs, DIs h (encS (k v)) v) → ∃ fs, PySem.W.KatTups h vs fs ∧ fs.length = vs.length ∧ ∀ f ∈ fs, ∃ (x : Int) (t : Tok), f = Value.int x t
  | [], _ => ⟨[], PySem.W.KatTups.nil, rfl, fun f hf => by cases hf⟩
  | v :: vs, hp => by
    obtain ⟨fs, h1, h2, h3⟩ := firsts_stamp fun v hv => hp v (List.mem_cons_of_mem _ hv)
    obtain ⟨a, o, n, t, u, e, ho, hc, hd⟩ := dis_stamp (hp v List.mem_cons_self)
    subst e
    refine ⟨.int (k (.ref a)).1 t :: fs, PySem.W.KatTups.cons ho hc hd rfl h1, by simp [h2], fun f hf => ?_⟩
    rcases List.mem_cons.mp hf with rfl | hf
    · exact ⟨_, _, rfl⟩
    · exact h3 f hf
theorem stamps_sortable {a : Addr} {vs : List Value} {k : Value → Stp} (h0 : 0 < vs.length) (hp : ∀ v ∈ vs, DIs s.heap (encS (k v)) v) (ha : ∀ o, s.heap.get? a = some o → o.cls ≠ .type "tuple") : SortableO prog w A s a vs fun v u => ltS (k v) (k u) := by
  intro h' keep
  have hp' : ∀ v ∈ vs, DIs h' (encS (k v)) v := fun v hm => (hp v hm).keeps fun b o c e => keep b o (fun z => by subst z; exact ha o e c) e
  obtain ⟨fs, h1, h2, h3⟩ := firsts_stamp hp'
  refine ⟨tuples' true, fun Q E hq => ?_, stamp_cmp hp'⟩
  refine PySem.W.kat_kind (T := .type "int") h1 (by omega) (fun f hm => ?_) (by rfl) ?_
  · obtain ⟨x, t, rfl⟩ := h3 f hm
    exact PySem.W.Looks.now
  · have e : (Value.type "int" != Value.type "tuple") = true := by first | decide +kernel | rfl | decide
    rw [e]
    exact hq
open Classical in
noncomputable def stampOf (h : Heap) (v : Value) : Stp := if c : ∃ p, DIs h (encS p) v then c.choose else (0, ⟨#[]⟩)
theorem stampOf_eq {h : Heap} {v : Value} {p : Stp} (x : DIs h (encS p) v) : stampOf h v = p := by
  classical
  unfold stampOf
  rw [dif_pos ⟨p, x⟩]
  exact stamp_inj (Exists.choose_spec (p := fun p => DIs h (encS p) v) ⟨p, x⟩) x
end
theorem flat_encS (p : Stp) : flat (encS p) = true := rfl
def rSorted : DRC := fun ds G Q => match ds with
  | [.ref a] => (match G a with
    | some (.lst xs) => ∃ L, xs = L.map encS ∧ ∀ p, G p = none → Q (.ref p) (gup G p (.lst ((sortS L).map encS)))
    | some (.dct es) => ∃ L, es.map (·.1) = L.map encS ∧ es.length ≤ 16777216 ∧ ∀ p, G p = none → Q (.ref p) (gup G p (.lst ((sortS L).map encS)))
    | _ => False)
  | _ => False
theorem dis_all {h : Heap} : ∀ {L : List Stp} {vs : List Value}, DIsL h (L.map encS) vs → vs.map (stampOf h) = L ∧ ∀ v ∈ vs, DIs h (encS (stampOf h v)) v
  | [], _, x => by cases x; exact ⟨rfl, fun v hv => by cases hv⟩
  | p :: L, _, x => by
    cases x with
    | cons a t =>
    obtain ⟨h1, h2⟩ := dis_all t
    have e := stampOf_eq a
    refine ⟨by rw [List.map_cons, e, h1], fun v hv => ?_⟩
    rcases List.mem_cons.mp hv with rfl | hv
    · rw [e]; exact a
    · exact h2 v hv
theorem flats_encS : ∀ L : List Stp, flats (L.map encS) = true
  | [] => rfl
  | p :: L => by
    show (flat (encS p) && flats (L.map encS)) = true
    rw [flats_encS L]
    rfl
/-- back from the sorted values -/
theorem sorted_back {X : Cx} {pins : List (Addr × Obj)} {σ : L2.St} {H : Hp} {s : Shared} (I : Inv X pins σ H s) {L : List Stp} {vs : List V} {its out : List Value} (hl : DenL X.K H (L.map encS) vs) (rv : Vals vs its)
    (hs : Srtd (fun v u => ltS (stampOf s.heap v) (stampOf s.heap u)) out) (hb : Stb (fun v u => ltS (stampOf s.heap v) (stampOf s.heap u)) out its) :
    ∃ ws, Vals ws out ∧ DenL X.K H ((sortS L).map encS) ws ∧ ws.length = vs.length := by
  obtain ⟨e1, e2⟩ := dis_all (DenL.dis I _ hl rv (flats_encS L))
  have hm : ∀ v ∈ out, v ∈ its := fun v hv => hb.perm.mem_iff.mp hv
  have eo : out.map (stampOf s.heap) = sortS L := by
    refine (sortS_eq ?_ ?_).symm
    · rw [← e1]
      exact hb.perm.map _
    · exact List.pairwise_map.mpr hs
  have each : ∀ u ∈ its, ∃ w, RelV w u ∧ Den X.K H (encS (stampOf s.heap u)) w := by
    intro u hu
    obtain ⟨j, hj⟩ := List.mem_iff_getElem?.mp hu
    obtain ⟨w, hw, rw'⟩ := Paired.at2 rv hj
    obtain ⟨d, hd, rd⟩ := hl.getV hw
    rw [List.getElem?_map] at hd
    obtain ⟨p, hp, rfl⟩ := Option.map_eq_some_iff.mp hd
    have := stampOf_eq (Den.dis I _ rd rw' rfl)
    rw [this]
    exact ⟨w, rw', rd⟩
  have go : ∀ (l : List Value), (∀ v ∈ l, v ∈ its) → ∃ ws, Vals ws l ∧ DenL X.K H ((l.map (stampOf s.heap)).map encS) ws := by
    intro l
    induction l with
    | nil => intro _; exact ⟨[], .nil, .nil⟩
    | cons v l ih =>
      intro h
      obtain ⟨ws, h1, h2⟩ := ih fun v hv => h v (List.mem_cons_of_mem _ hv)
      obtain ⟨w, r1, r2⟩ := each v (h v List.mem_cons_self)
      exact ⟨w :: ws, .cons r1 h1, .cons r2 h2⟩
  obtain ⟨ws, h1, h2⟩ := go out hm
  rw [eo] at h2
  refine ⟨ws, h1, h2, ?_⟩
  rw [h1.length, hb.perm.length_eq, ← rv.length]
/-- the keys of a dict -/
theorem keys_den {K : PySem.W.Frag} {w : World} {H : Hp} : ∀ {es : List (D × D)} {raw : List DictEntry}, Paired (EntR K w H) es raw → ∃ vs, DenL K H (es.map (·.1)) vs ∧ Vals vs (raw.map DictEntry.key)
  | _, _, .nil => ⟨[], .nil, .nil⟩
  | _, _, .cons x t => by
    obtain ⟨v, r1, r2⟩ := x.key
    obtain ⟨vs, h1, h2⟩ := keys_den t
    exact ⟨v :: vs, .cons r2 h1, .cons r1 h2⟩
theorem call_sortedD {X : Cx} (hcalm : X.calm = true) : CallD X (.builtin "sorted") rSorted := by
  intro pins s σ H xs us Q I rx ⟨ds, G, R, A, r, q, k⟩
  unfold rSorted at q
  split at q
  · rename_i a
    obtain ⟨v, rfl, d1⟩ := r.inv1
    cases d1
    split at q
    · rename_i xs eg
      obtain ⟨L, rfl, q⟩ := q
      obtain ⟨vs, hv, hl⟩ := A _ _ eg
      rw [Vals.ref1 rx]
      obtain ⟨its, rv, pl, hz⟩ := I.list (.of hv)
      obtain ⟨e1, e2⟩ := dis_all (DenL.dis I _ hl rv (flats_encS L))
      refine sorted_ord (swo_ltS (stampOf s.heap)) pl.isList (by rw [← rv.length]; exact hz) (fun h2 h₁ a' ha kk => ?_) fun out hs hb => ?_
      · refine stamps_sortable (s := { s with heap := h₁ }) (by omega) (fun v hm => (e2 v hm).keeps fun b o _ e => (kk b o e).2) fun o e => ?_
        have e' : some o = some (seqObj "list" its.toArray 0) := e.symm.trans ha
        cases e'
        intro c
        exact absurd (Value.type.inj c) (by decide)
      · obtain ⟨ws, w1, w2, w3⟩ := sorted_back I hl rv hs hb
        obtain ⟨ep, he'⟩ := PyProof.Rows.sortedAll_at s.heap its out.toArray
        have nH := I.hok.fresh (Nat.le_succ s.heap.objs.size)
        refine ⟨.ref _, upd H (s.heap.objs.size + 1) (.lst ws), I.laid (t' := s.toks) (fun _ _ => PyProof.Rows.sortedAll_old) (Nat.le_succ _) ⟨by rw [w3]; exact hz, out, ep, w1, he'⟩, rfl, ?_⟩
        exact k _ _ _ _ (q _ (A.none nH)) (Step.alloc A nH ⟨_, upd_same, w2.mono (.alloc nH)⟩) (.ref _)
    · rename_i es eg
      obtain ⟨L, eL, hz, q⟩ := q
      obtain ⟨lo, nd, raw, hr, P⟩ := A a _ eg
      obtain ⟨⟨o, es', ep, e1, e2, e3, e4⟩, hst⟩ := I.hok a _ hr
      obtain ⟨vs, hl, rv⟩ := keys_den P
      rw [eL] at hl
      rw [Vals.ref1 rx]
      have hlen : raw.length = es.length := (Paired.len P).symm
      have hvl : vs.length = raw.length := by rw [rv.length, List.length_map]
      refine Calls.call_function_entry PyProof.Rows.kind_sorted PyProof.Rows.plain_sorted PyProof.Rows.entry_sorted (PyProof.Rows.args_sorted1 _) ?_
      unfold Builtin.«sorted»
      refine wpAny_bind (m := checkCount "sorted" 1 1 _) (wpAny_pure ?_)
      refine wpAny_bind (PySem.W.kdu_collect (A := X.A.in1) (src_raw (raw := raw) (ep := ep) lo) (I.ok.hd hcalm) ⟨o, es', e1, e2, e3, e4⟩ (by rw [hlen, sizeLine_eq]; exact hz) fun h' tk acc hk hacc => ?_)
      rw [items_keys hacc]
      have I1 : Inv X pins σ H { s with heap := h', toks := tk } := I.kept hk
      refine wpAny_bind (wpAny_newList ?_ (by rw [List.length_map, hlen, sizeLine_eq]; exact hz))
      have hoL : (h'.push (seqObj "list" (raw.map DictEntry.key).toArray 0)).get? h'.objs.size = some (seqObj "list" (raw.map DictEntry.key).toArray 0) := Heap.get?_push_size _ rfl
      show wpAny _ _ _ _ _ { s with heap := h'.push (seqObj "list" (raw.map DictEntry.key).toArray 0), toks := tk }
      have I1' : ∀ u b, RelV u b → True := fun _ _ _ => trivial
      obtain ⟨f1, f2⟩ := dis_all (DenL.dis I1 _ hl rv (flats_encS L))
      refine wpAny_bind (wpAny_holding (wpAny_call_entry PyProof.Rows.slot_list_sort ⟨_, hoL, rfl⟩ PyProof.Rows.entry_list_sort
        (list_sort_ord (s := { s with heap := h'.push (seqObj "list" (raw.map DictEntry.key).toArray 0), toks := tk }) (swo_ltS (stampOf h')) hoL (by rw [List.length_map, hlen, sizeLine_eq]; exact hz) (fun h2 => ?_) fun out hs hb => ⟨_, rfl, ?_⟩) (PyProof.Rows.args_list_sort _)))
      · rw [List.length_map] at h2
        refine stamps_sortable (by rw [List.length_map]; omega) (fun v hm => (f2 v hm).keeps fun b o _ e => Heap.get?_push_of_some _ e) fun o e => ?_
        have e' : some o = some (seqObj "list" (raw.map DictEntry.key).toArray 0) := e.symm.trans hoL
        cases e'
        intro c
        exact absurd (Value.type.inj c) (by decide)
      · obtain ⟨ws, w1, w2, w3⟩ := sorted_back I1 hl rv hs hb
        obtain ⟨ep', he'⟩ := PyProof.Rows.sortedHeap_at (vs := raw.map DictEntry.key) (out := out.toArray) hoL
        have nH := I1.hok.fresh (Nat.le_refl h'.objs.size)
        refine wpAny_pure ⟨_, rfl, .ref h'.objs.size, upd H h'.objs.size (.lst ws), I1.laid (t' := tk) (fun b u e => ?_) (Nat.le_refl _) ⟨by rw [w3, hvl, hlen, sizeLine_eq]; exact hz, out, ep', w1, he'⟩, rfl, ?_⟩
        · have hb : b < h'.objs.size := Heap.lt_size e
          rw [PyProof.Rows.sortedHeap_old (Nat.ne_of_lt hb) (by rw [size_push']; exact Nat.lt_succ_of_lt hb)]
          exact Heap.get?_push_of_some _ e
        · exact k _ _ _ _ (q _ (A.none nH)) (Step.alloc A nH ⟨_, upd_same, w2.mono (.alloc nH)⟩) (.ref _)
    · exact q.elim
  · exact q.elim
end DD

/-! D-layer 14: -x, x[::-1], xs[i] = y, a, b, c = .. -/
namespace DD
open PySem PySem.Spec PyProof.Rows L2 SeqAt
section
variable {prog : Program} {w : World} {A : Around} {E : Value → Shared → Prop} {s : Shared}
theorem rev_places (n : Nat) : Builtin.Slice.slicePlaces ((n : Int) - 1) (-1) (-1) = n := by
  unfold Builtin.Slice.slicePlaces
  have h1 : ¬ ((-1 : Int) > 0) := by omega
  simp only [h1, if_false]
  by_cases h : (n : Int) - 1 > -1
  · have e : ((n : Int) - 1 - -1 - 1) / (- -1) + 1 = (n : Int) := by
      rw [show (- -1 : Int) = 1 by decide, Int.ediv_one]
      omega
    simp only [h, if_true]
    rw [e]
    simp
  · have e : n = 0 := by omega
    subst e
    simp
theorem rev_adjust (n : Nat) : Builtin.Slice.sliceAdjust none none (-1) (n : Int) = ((n : Int) - 1, -1) := by
  unfold Builtin.Slice.sliceAdjust
  have h1 : ((-1 : Int) < 0) := by omega
  simp only [h1, if_true]
theorem filterMap_cg {α β : Type} {f g : α → Option β} : ∀ {l : List α}, (∀ k ∈ l, f k = g k) → l.filterMap f = l.filterMap g
  | [], _ => rfl
  | a :: l, h => by
    rw [List.filterMap_cons, List.filterMap_cons, h a List.mem_cons_self, filterMap_cg fun k hk => h k (List.mem_cons_of_mem _ hk)]
theorem rev_pick (xs : Array Value) : ((List.range xs.size).filterMap fun (m : Nat) => xs[((xs.size : Int) - 1 + (m : Int) * -1).toNat]?).toArray = xs.toList.reverse.toArray := by
  congr 1
  have e : ((List.range xs.size).filterMap fun (m : Nat) => xs[((xs.size : Int) - 1 + (m : Int) * -1).toNat]?) = ((List.range xs.size).map fun k => xs.size - 1 - k).filterMap (xs[·]?) := by
    rw [List.filterMap_map]
    refine filterMap_cg fun k hk => ?_
    have hk' := List.mem_range.mp hk
    have : ((xs.size : Int) - 1 + (k : Int) * -1).toNat = xs.size - 1 - k := by omega
    rw [this]
    rfl
  rw [e, PySem.W.krv_range, List.filterMap_reverse, PySem.W.krv_all]
theorem getItem_tuple_rev {t sl : Addr} {items : Array Value} {vs : Value} {Q : Value → Shared → Prop} (ht : IsTup s.heap t items) (hs : s.heap.IsSliceOf sl .none .none vs) (pv : IsPart vs (some (-1)))
    (h : Q (.ref s.heap.objs.size) { s with heap := s.heap.push { cls := .type "tuple", data := .seq items.toList.reverse.toArray } })
    (hsz : items.size ≤ sizeLine) : wpAny (model prog w) A (getItem (.ref t) (.ref sl)) Q E s := by
  have htake : sizeOk (.seq items.toList.reverse.toArray) := by
    show items.toList.reverse.toArray.size ≤ sizeLine
    rw [List.size_toArray, List.length_reverse, Array.length_toList]
    omega
  obtain ⟨os, hos, hcs, hds⟩ := id hs
  have hTs : s.TypeIs (.ref sl) "slice" := ⟨os, hos, hcs⟩
  unfold getItem
  try with_reducible refine wpAny_holding ?_
  first | refine wpAny_bind (wpAny_pure ?_) | skip
  refine wpAny_bind (wpAny_sequenceKey ht.typeIs (by decide) ?_)
  refine wpAny_bind (wpAny_callSpecial?_slot (name := Str.ofString "__getitem__") ht.typeIs PyProof.Rows.slot_tuple_getitem
    (wpAny_call_entry PyProof.Rows.slot_tuple_getitem ht.typeIs entry_tuple_getitem ?_ (args_tuple_getitem _ _)))
  show wpAny _ _ (Builtin.Tuple.tupleItemsOf (.ref t) >>= _) _ _ s
  refine wpAny_bind (tupleItemsOf_ ht ?_)
  refine wpAny_bind (wpAny_typeOf hTs ?_)
  rw [if_pos (by decide)]
  refine wpAny_bind ?_
  unfold Builtin.Slice.sliceApplied Builtin.Slice.sliceFields
  refine wpAny_bind (wpAny_bind (wpAny_field hos hds (x := .none) rfl (wpAny_bind (wpAny_field hos hds (x := .none) rfl (wpAny_bind (wpAny_field hos hds (x := vs) rfl (wpAny_pure ?_)))))))
  refine wpAny_bind (HT.slicePart_ pv ?_)
  show wpAny _ _ (if ((-1 : Int) == 0) = true then _ else _) _ _ s
  rw [if_neg (by decide)]
  refine wpAny_bind (slicePart_none (wpAny_bind (slicePart_none (wpAny_bind (wpAny_pure ?_)))))
  show wpAny _ _ (match Builtin.Slice.sliceAdjust none none (-1) (items.size : Int) with | (lo, hi) => pure (lo, (-1 : Int), Builtin.Slice.slicePlaces lo hi (-1))) _ _ s
  rw [rev_adjust]
  show wpAny _ _ (pure ((items.size : Int) - 1, (-1 : Int), Builtin.Slice.slicePlaces ((items.size : Int) - 1) (-1) (-1))) _ _ s
  rw [rev_places]
  refine wpAny_pure ?_
  have hno : ¬ (((items.size : Int) - 1 == 0 && (-1 : Int) == 1 && items.size == items.size) = true) := by simp
  show wpAny _ _ (if ((items.size : Int) - 1 == 0 && (-1 : Int) == 1 && items.size == items.size) = true then _ else _) _ _ s
  rw [if_neg hno, rev_pick]
  first
    | exact wpAny_bind (m := Builtin.Tuple.tupleExact _) (wpAny_newObj_type (wpAny_pure ⟨_, rfl, wpAny_pure h⟩) htake)
    | exact wpAny_bind (m := Builtin.Tuple.tupleExact _) (wpAny_newObj_type (wpAny_bind (wpAny_pure (wpAny_pure ⟨_, rfl, wpAny_pure h⟩))) htake)
    | exact wpAny_bind (wpAny_bind (m := Builtin.Tuple.tupleExact _) (wpAny_newObj_type (wpAny_pure (wpAny_pure ⟨_, rfl, wpAny_pure h⟩)) htake))
    | exact wpAny_bind (wpAny_bind (m := Builtin.Tuple.tupleExact _) (wpAny_newObj_type (wpAny_pure ⟨_, rfl, wpAny_pure h⟩) htake))
end
/-- x[::-1], a tuple or a list -/
def tRevX (K : PySem.W.Frag) (te : TE) : TE := fun σ H Q => te σ H fun x H1 => ∃ a xs, x = .ref a ∧ ((SqL K H1 a xs ∧ ∀ p, H1 p = none → Q (.ref p) (upd H1 p (.lst xs.reverse))) ∨ (SqT K H1 a xs ∧ ∀ p, H1 p = none → Q (.ref p) (upd H1 p (.tup xs.reverse))))
theorem pe_revX {X : Cx} {e : Expr} {te : TE} {k : Nat} {p1 p2 p3 pos : Pos} (he : PE X e te) : PE X (.Subscript e (.Slice none none (some (.UnaryOp .USub (.Constant (.int 1) k p1) p2)) p3) pos) (tRevX X.K te) := by
  refine ⟨fun pins s σ H Q I h => ?_⟩
  refine Subscript_ (thn (he.run pins s σ H _ I h) fun v s1 ⟨x, H1, I1, r1, q1⟩ => ?_)
  obtain ⟨a, xs, ex, q⟩ := q1
  subst ex
  cases r1
  have hst : PO X (some (.UnaryOp .USub (.Constant (.int 1) k p1) p2)) (tPart (tUn (rU fun i => .int (-i)) (tC (.int 1)))) := po_some (pe_un un_neg pe_int)
  refine wpAny_Slice (thn (po_none.run pins s1 σ H1 (fun o H2 => o = none ∧ H2 = H1) I1 ⟨rfl, rfl⟩) fun vl s2 ⟨l, H2, I2, pl, el, e2⟩ => ?_)
  subst el e2
  refine thn (po_none.run pins s2 σ H2 (fun o H3 => o = none ∧ H3 = H2) I2 ⟨rfl, rfl⟩) fun vu s3 ⟨u, H3, I3, pu, eu, e3⟩ => ?_
  subst eu e3
  refine thn (hst.run pins s3 σ H3 (fun o H4 => o = some (-1) ∧ H4 = H3) I3 ⟨1, rfl, -1, rfl, rfl, rfl⟩) fun vs s4 ⟨o, H4, I4, ps, eo, e4⟩ => ?_
  subst eo e4
  have I5 : Inv X pins σ H4 { s4 with heap := s4.heap.push { cls := .type "slice", data := .fields #[vl, vu, vs] } } := I4.kept (t' := s4.toks) fun b ob q => Heap.get?_push_of_some _ q
  rcases q with ⟨hx, q⟩ | ⟨hx, q⟩
  · obtain ⟨its, r, ht, hz⟩ := I5.list hx
    have hlen := r.length
    show wpAny (model X.prog X.w) X.A (subscriptTail e (.Slice none none (some (.UnaryOp .USub (.Constant (.int 1) k p1) p2)) p3) (.ref a) (.ref s4.heap.objs.size)) (EP X pins σ Q) X.xe { s4 with heap := s4.heap.push { cls := .type "slice", data := .fields #[vl, vu, vs] } }
    refine tail_any (ops := [.ref a, .ref s4.heap.objs.size]) ht.isList.typeIs (PySem.slot_list_getitem.lookup) ?_ (by with_unfolding_all rfl)
    refine wpAny_getItem_list_slice ht.isList (Heap.IsSliceOf.new _ vl vu vs) pl pu ps (by decide) ?_ (by rw [List.size_toArray]; omega)
    rw [PySem.W.krv_pick]
    refine ⟨.ref _, _, I5.laid (t' := s4.toks) (o := .lst xs.reverse) (fun b ob q => Heap.get?_push_of_some _ q) (Nat.le_refl _) ?_, rfl, q _ (I5.hok.fresh (Nat.le_refl _))⟩
    exact ⟨by rw [List.length_reverse]; exact hz, _, 0, r.reverse, Heap.get?_push_size _ rfl⟩
  · obtain ⟨its, r, ht, hz⟩ := I5.tuple hx
    have hlen := r.length
    cases pl
    cases pu
    show wpAny (model X.prog X.w) X.A (subscriptTail e (.Slice none none (some (.UnaryOp .USub (.Constant (.int 1) k p1) p2)) p3) (.ref a) (.ref s4.heap.objs.size)) (EP X pins σ Q) X.xe { s4 with heap := s4.heap.push { cls := .type "slice", data := .fields #[.none, .none, vs] } }
    refine tail_any (T := "tuple") (ops := [.ref a, .ref s4.heap.objs.size]) ht.typeIs PyProof.Rows.slot_tuple_getitem.lookup ?_ (by with_unfolding_all rfl)
    refine getItem_tuple_rev ht (Heap.IsSliceOf.new _ .none .none vs) ps ?_ (by rw [List.size_toArray]; omega)
    refine ⟨.ref _, _, I5.laid (t' := s4.toks) (o := .tup xs.reverse) (fun b ob q => Heap.get?_push_of_some _ q) (Nat.le_refl _) ?_, rfl, q _ (I5.hok.fresh (Nat.le_refl _))⟩
    exact ⟨by rw [List.length_reverse]; exact hz, _, r.reverse, IsTup.new _ _⟩
def dRev (Te : DTE) : DTE := fun δ G Q => Te δ G fun d G1 => match d with
  | .tup ds => Q (.tup ds.reverse) G1
  | .ref a => (match G1 a with
    | some (.lst ds) => ∀ p, G1 p = none → Q (.ref p) (gup G1 p (.lst ds.reverse))
    | _ => False)
  | _ => False
section
variable {X : Cx} {ρ : Rg X.K X.w} {a b c e : Expr} {Ta Tb Tc Te : DTE} {pos : Pos}
theorem de_rev {k : Nat} {p1 p2 p3 : Pos} (he : DE X ρ e Te) : DE X ρ (.Subscript e (.Slice none none (some (.UnaryOp .USub (.Constant (.int 1) k p1) p2)) p3) pos) (dRev Te) := by
  refine L2.PE.imp (pe_revX he) fun σ H Q ⟨δ, G, R, ab, ds, t, k⟩ => ?_
  refine ⟨δ, G, _, ab, ds, t, fun d G1 v H1 q s r => ?_⟩
  split at q
  · cases r with
    | tup hq hl =>
    refine ⟨_, _, rfl, .inr ⟨hq, fun p hp => ?_⟩⟩
    exact k _ G1 _ _ q (s.trans (Step.hidden s.abs hp)) (.tup (.of upd_same) (hl.reverse.mono (.alloc hp)))
  · cases r
    split at q
    · rename_i eg
      obtain ⟨ws, hw, hl⟩ := s.abs _ _ eg
      refine ⟨_, _, rfl, .inl ⟨.of hw, fun p hp => ?_⟩⟩
      exact k _ _ _ _ (q p (s.abs.none hp)) (s.trans (Step.alloc s.abs hp ⟨_, upd_same, hl.reverse.mono (.alloc hp)⟩)) (.ref p)
    · exact q.elim
  · exact q.elim
def rNeg : DR1 := fun d G Q => match d with | .int i => Q (.int (-i)) G | _ => False
theorem op_negD : UnD X (unaryOp .USub) rNeg := by
  intro pins s σ H x v Q I rx ⟨d, G, R, A, r1, q, k⟩
  unfold rNeg at q
  split at q
  · cases r1
    exact un_neg pins s σ H _ v Q I rx ⟨_, rfl, k _ G _ H q (.refl A) (.int _)⟩
  · exact q.elim
/-- xs[i] = y, a list or a dict -/
def rPutL : DRS := fun o i v G Q => match o with
  | .ref a => (match G a with
    | some (.lst ds) => (match i with
      | .int k => ob (ixN ds.length k) fun j => Q (gup G a (.lst (ds.set j v)))
      | _ => False)
    | _ => False)
  | _ => False
theorem set_LD : SetD X rPutL := by
  intro pins s σ H o i x ov iv u Q I ro ri rx ⟨d1, d2, d3, G, R, A, r1, r2, r3, q, k⟩
  unfold rPutL at q
  split at q
  · split at q
    · rename_i eg
      split at q
      · cases r1; cases r2
        obtain ⟨j, ej, q⟩ := ob_iff.mp q
        obtain ⟨ws, hw, hl⟩ := A _ _ eg
        rw [hl.length] at ej
        exact set_list pins s σ H _ _ x ov iv u Q I ro ri rx ⟨_, ws, _, j, rfl, rfl, hw, ej, k _ _ q (step_lst A eg (hl.set r3 j))⟩
      · exact q.elim
    · exact q.elim
  · exact q.elim
/-- o[i] = v -/
def rPut : DRS := fun o i v G Q => match o with
  | .ref a => (match G a with
    | some (.lst ds) => (match i with
      | .int k => ob (ixN ds.length k) fun j => Q (gup G a (.lst (ds.set j v)))
      | _ => False)
    | some (.dct es) => (keyOk i ∧ es.length < 16777216) ∧ Q (gup G a (.dct (dputE i v es)))
    | _ => False)
  | _ => False
theorem set_D (hu : X.A.units + 64 < cLine) : SetD X rPut := by
  intro pins s σ H o i x ov iv u Q I ro ri rx ⟨d1, d2, d3, G, R, A, r1, r2, r3, q, k⟩
  have q' : rPutL d1 d2 d3 G R ∨ rPutK d1 d2 d3 G R := by
    unfold rPut at q
    split at q
    · split at q
      · rename_i eg
        refine .inl ?_
        unfold rPutL
        dsimp only
        rw [eg]
        exact q
      · rename_i eg
        refine .inr ?_
        unfold rPutK
        dsimp only
        rw [eg]
        exact q
      · exact q.elim
    · exact q.elim
  rcases q' with q | q
  · exact set_LD pins s σ H o i x ov iv u Q I ro ri rx ⟨d1, d2, d3, G, R, A, r1, r2, r3, q, k⟩
  · exact set_KD (by omega) pins s σ H o i x ov iv u Q I ro ri rx ⟨d1, d2, d3, G, R, A, r1, r2, r3, q, k⟩
/-- a, b, c = e1, e2, e3 with plain local names -/
def dPar3 (i j l : Nat) (Ta : DTA) : DTS := fun E δ G => Ta δ G fun ds G1 => match ds with | [d, e, f] => E.nx (((δ.set i (some d)).set j (some e)).set l (some f)) G1 | _ => False
theorem ds_par3 {i j l : Nat} {x y z : Str} {Tt : DTA} {px py pz pt : Pos} {kt k2 pt2} (hc : X.calm = true) (hN : X.N.Nodup) (hi : X.N[i]? = some x) (hj : X.N[j]? = some y) (hl : X.N[l]? = some z) (hij : i ≠ j) (hil : i ≠ l) (hjl : j ≠ l)
    (hx : X.env.scope.names.lookup x = some .local) (hy : X.env.scope.names.lookup y = some .local) (hz : X.env.scope.names.lookup z = some .local) (ha : DA X ρ [a, b, c] Tt)
    (hw : swappedStores [.Tuple [.Name x px, .Name y py, .Name z pz] kt pt] (.Tuple [a, b, c] k2 pt2) X.env = pure (some [x, y, z]))
    (hs : swapsWithSole [.Tuple [.Name x px, .Name y py, .Name z pz] kt pt] (.Tuple [a, b, c] k2 pt2) pos.line X.env = pure false := by rfl) :
    DS X ρ (.Assign [.Tuple [.Name x px, .Name y py, .Name z pz] kt pt] (.Tuple [a, b, c] k2 pt2) pos) (dPar3 i j l Tt) := by
  refine L2.PS.imp (ps_par3 hc hN hi hj hl hij hil hjl hx hy hz ha hw hs) fun D σ H ⟨δ, G, E, ab, ds, t, k1, _⟩ => ?_
  refine ⟨δ, G, _, ab, ds, t, fun ds' G' vs H' q s r n => ?_⟩
  split at q
  · obtain ⟨v, u, w, rfl, r1, r2, r3⟩ := r.inv3
    exact ⟨v, u, w, rfl, k1 _ _ _ _ q s ((((ds.mono (ab.kp s)).set r1 i).set r2 j).set r3 l)⟩
  · exact q.elim
end
end DD

/-! D-layer 15: walks of any sequence; defs that keep their promise -/
namespace DD
open PySem PySem.Spec PyProof.Rows L2 SeqAt
def iSeq (K : PySem.W.Frag) (te : TE) : TI := fun σ H R => te σ H fun x H1 => (∃ a, x = .ref a ∧ (∃ xs, SqT K H1 a xs) ∧ R (Itt K a) H1) ∨ (∃ a, x = .ref a ∧ (∃ xs, SqL K H1 a xs) ∧ R (Itl K a) H1) ∨ ∃ z, x = .str z ∧ R (Its z) H1
theorem pi_seq {X : Cx} {tg e : Expr} {te : TE} (he : PE X e te) : PI X tg e (iSeq X.K te) := by
  refine ⟨fun pins s σ H R I h => ?_⟩
  refine thn (he.run pins s σ H _ I h) fun v s1 ⟨x, H1, I1, r1, q1⟩ => ?_
  rcases q1 with ⟨a, e, ⟨xs, hq⟩, q⟩ | ⟨a, e, ⟨xs, hq⟩, q⟩ | ⟨x, ex, q⟩
  · subst e
    cases r1
    obtain ⟨its, rv, p, hz⟩ := I1.tuple hq
    refine wpAny_pyIter_tuple (show s1.heap.IsTuple a its.toArray from p) ?_
    refine ⟨s1.heap.objs.size, [s1.heap.objs.size], _, _, H1, rfl, I1.kept (t' := s1.toks) fun b o e => Heap.get?_push_of_some _ e, turn_tuple a _, ⟨_, Heap.get?_push_size _ rfl, rfl, rfl⟩, fun b hb => ?_, q⟩
    have e : b = s1.heap.objs.size := by simpa using hb
    subst e
    exact I1.fpOk (Nat.le_refl _) (I1.hok.fresh (Nat.le_refl _))
  · subst e
    cases r1
    obtain ⟨its, rv, p, hz⟩ := I1.list hq
    refine wpAny_pyIter_list p.isList ?_
    refine ⟨s1.heap.objs.size, [s1.heap.objs.size], _, _, H1, rfl, I1.kept (t' := s1.toks) fun b o e => Heap.get?_push_of_some _ e, turn_list a _, ⟨_, Heap.get?_push_size _ rfl, rfl, rfl⟩, fun b hb => ?_, q⟩
    have e : b = s1.heap.objs.size := by simpa using hb
    subst e
    exact I1.fpOk (Nat.le_refl _) (I1.hok.fresh (Nat.le_refl _))
  · subst ex
    obtain ⟨t, rfl⟩ := r1
    cases ha : x.cps.all (· < 128)
    · exact wpAny_pyIter_wide ha (pi_one (tk := s1.toks) I1 _ (turn_str _ x t "str_iterator" (.inr rfl)) ⟨_, Heap.get?_push_size _ rfl, rfl, rfl⟩ q)
    · exact wpAny_pyIter_ascii ha (pi_one (tk := s1.toks) I1 _ (turn_str _ x t "str_ascii_iterator" (.inl rfl)) ⟨_, Heap.get?_push_size _ rfl, rfl, rfl⟩ q)
/-- the items of a tuple, a list (while it stands), a text -/
def dSeqX (Te : DTE) : DTI := fun δ G R => Te δ G fun d G1 => match d with
  | .tup ds => R ds (fun _ => True) G1
  | .str x => R (signs x) (fun _ => True) G1
  | .ref a => (match G1 a with
    | some (.lst ds) => R ds (fun G' => G' a = some (.lst ds)) G1
    | _ => False)
  | _ => False
section
variable {X : Cx} {ρ : Rg X.K X.w} {e : Expr} {Te : DTE}
theorem di_seq {tg : Expr} (he : DE X ρ e Te) : DI X ρ tg e (dSeqX Te) := by
  refine L2.PI.imp (pi_seq (L2.PE.held he)) fun σ H R' ⟨δ, G, R, ab, ds, t, k⟩ => ?_
  refine ⟨δ, G, _, ab, ds, t, fun d G1 v H1 q s r s' pins I => ?_⟩
  split at q
  · cases r with
    | tup hq hl =>
      rename_i ds' a us
      refine .inl ⟨a, rfl, ⟨us, hq⟩, k _ _ G1 _ H1 q s ⟨fun H => SqT X.K H a us, YAt us, by rw [hl.length]; exact walk_tup, ?_, fun H G kp _ _ => kp.tup _ _ hq, fun i H x H' G kp A _ g hi y => ?_⟩⟩
      · obtain ⟨_, _, _, z⟩ := I.tuple hq
        rw [hl.length]; exact z
      · obtain ⟨rfl, ex⟩ := y
        obtain ⟨d, ed, rd⟩ := hl.getV ex
        exact ⟨d, ed, .refl A, rd.mono kp⟩
  · rename_i x
    cases r with
    | str _ hx =>
    have hl : (signs x).length = x.cps.size := by simp [signs]
    refine .inr (.inr ⟨x, rfl, k _ _ G1 _ H1 q s ⟨fun _ => True, fun i H v H' => H' = H ∧ ∃ c, x.cps[i]? = some c ∧ v = .str ⟨#[c]⟩, by rw [hl]; exact walk_str, by rw [hl]; exact hx, fun _ _ _ _ _ => trivial, fun i H y H' G kp A _ _ hi z => ?_⟩⟩)
    obtain ⟨rfl, c, ec, rfl⟩ := z
    refine ⟨.str ⟨#[c]⟩, ?_, .refl A, .str _ (by show 1 ≤ sizeLine; decide)⟩
    simp [signs, ec]
  · rename_i a
    cases r
    split at q
    · rename_i ds' e1
      obtain ⟨us, hu, hl⟩ := s.abs a _ e1
      refine .inr (.inl ⟨a, rfl, ⟨us, .of hu⟩, k _ _ G1 _ H1 q s ⟨fun H => ∃ ws, SqL X.K H a ws ∧ ws.length = ds'.length ∧ DenL X.K H ds' ws, fun i H x H' => H' = H ∧ ∃ ws, SqL X.K H a ws ∧ DenL X.K H ds' ws ∧ ws[i]? = some x, ⟨fun i H hi g => ?_, fun H g => ?_, fun i H x H' hi g y => ?_⟩, ?_, fun H G kp A c => ?_, fun i H x H' G kp A c g hi y => ?_⟩⟩)
      · obtain ⟨ws, h1, h2, h3⟩ := g
        exact ⟨ws, ws[i], h1, by simp [h2, hi]⟩
      · obtain ⟨ws, h1, h2, h3⟩ := g
        exact ⟨ws, h1, by omega⟩
      · obtain ⟨ws, h1, h2, h3⟩ := g
        exact ⟨y.1, ws, h1, h3, y.2 ws h1⟩
      · obtain ⟨_, _, _, z⟩ := I.list (.of hu)
        rw [hl.length]; exact z
      · obtain ⟨ws, hw, hl'⟩ := A a _ c
        exact ⟨ws, .of hw, hl'.length.symm, hl'⟩
      · obtain ⟨rfl, ws, h1, h2, h3⟩ := y
        obtain ⟨d, ed, rd⟩ := h2.getV h3
        exact ⟨d, ed, .refl A, rd⟩
    · exact q.elim
  · exact q.elim
end

theorem mt_getU {X : Cx} (hu : X.A.units + 64 < cLine) : MtD X "dict.get" rGet := mt_get (by omega)
theorem mt_setdefaultU {X : Cx} (hu : X.A.units + 64 < cLine) : MtD X "dict.setdefault" rSetDef := mt_setdefault (by omega)
theorem mt_popKU {X : Cx} (hu : X.A.units + 64 < cLine) : MtD X "dict.pop" rPopK := mt_popK (by omega)
/-- a global constant -/
def GlC (K : PySem.W.Frag) (mg : Str → Option Value) (x : Str) (d : D) : Prop := ∃ v u, mg x = some u ∧ RelV v u ∧ ∀ H, Den K H d v

/-! ### defs that keep a promise -/
def Good (P : Program) (w : World) (K : PySem.W.Frag) (mg : Str → Option Value) (base : Heap) (x : Str) (ps : List Str) (k : Nat) (sp : DSp) : Prop :=
  ∃ f fd, mg x = some (.ref f) ∧ PySem.W.keepIn K (.ref f) = true ∧ Binds K fd ps [] ∧ FnOk P w K mg base CX0 k f fd ps (lsp K w sp)
/-- the def stands -/
def DefAt (K : PySem.W.Frag) (mg : Str → Option Value) (x : Str) (st : Stmt) : Prop := ∃ f fd, mg x = some (.ref f) ∧ FunD K x x (defArgs st) (defBody st) (defScope st) [] [] f fd
section
variable {X : Cx} {ρ : Rg X.K X.w} {e : Expr} {es : List Expr} {TB : DTA} {pos p : Pos} {x : Str} {ps : List Str} {k j : Nat} {sp : DSp}
theorem de_callG (F : Good X.prog X.w X.K X.mg X.base x ps k sp) (hr : Room j X.A) (hg : Gl X x) (ha : DA X ρ (e :: es) TB) (hj : k ≤ j := by decide) (hdb : (x == ("__debug__" : Str)) = false := by decide)
    (he : starEach (e :: es) X.env = (false, eval e X.env) :: starEach es X.env := by rfl) (hpl : (backTo pos (starEach es X.env)).any (·.1) = false := by rfl) : DE X ρ (.Call (.Name x p) (e :: es) [] pos) (dCall sp ex0 TB) := by
  obtain ⟨f, fd, hm, hk, hb, F⟩ := F
  exact de_call F (hr.mono hj) hg hm hk hb (W := W0) pass00 hex0 ha hdb he hpl
end
section
variable {P : Program} {w : World} {K : PySem.W.Frag} {mg : Str → Option Value} {base : Heap} {x : Str} {st : Stmt} {N ps : List Str} {k : Nat} {sp : DSp}
theorem good_of (D0 : DefAt K mg x st) (S : FnScope N ps (defScope st)) (T : DTS)
    (hb : ∀ (kV doc pm : Value) (an : Option Addr) (cdv ct : Value) (us : List Value), us.length = ps.length → bindArgs (PySem.W.fnOf x x (defArgs st) (defBody st) (defScope st) .none kV doc pm an cdv ct) ⟨us, []⟩ = pure (ps.zip us))
    (len : ∀ ds G R RE, sp ds G R RE → ds.length = ps.length)
    (der : ∀ (f : Addr) (cdv : Value) (A : Around) (outer : List Env) (s : Shared) (H : Hp) (E : XK), Room k (A.deeper (envOfC x (defScope st) s.heap.objs.size f cdv)) →
      DSs (cxOf CX0 P w K mg base N x (defScope st) f cdv A outer s H E).nox (Rg.top K w) (defBody st) T)
    (pure : ∀ ds G R RE, sp ds G R RE → T { nx := fun _ G' => R .non G', rt := R } (dstart N ds) G) : Good P w K mg base x ps (k + 1) sp := by
  obtain ⟨f, fd, hm, F⟩ := D0
  refine ⟨f, fd, hm, F.kp, F.bindsN hb, F.ok S (fun vs H Q E ⟨ds, G, R, RE, r, _, h, _⟩ => by rw [← r.length]; exact len _ _ _ _ h) fun cdv A outer s H vs Q E hr ⟨ds, G, R, RE, r, ab, h, k1, _⟩ => ⟨_, PSs.nox (der f cdv A outer s H E hr), ?_⟩⟩
  refine ⟨dstart N ds, G, _, ⟨ab, trivial⟩, start_den r, pure ds G R RE h, fun δ' G' σ' H' q s' d' => k1 .non G' .non H' q s' .non, fun d G' v H' q s' r' => k1 d G' v H' q s' r', fun _ _ _ _ q => q.elim, fun _ _ _ _ q => q.elim⟩
theorem Good.imp {sp' : DSp} (F : Good P w K mg base x ps k sp) (h : ∀ ds G R RE, sp' ds G R RE → sp ds G R RE) : Good P w K mg base x ps k sp' := by
  obtain ⟨f, fd, h1, h2, h3, h4⟩ := F
  exact ⟨f, fd, h1, h2, h3, fn_imp h4 h⟩
theorem Good.pure {Rl : List D → D → Prop} (F : Good P w K mg base x ps k (spP0 Rl)) : Good P w K mg base x ps k (spP Rl) := by
  obtain ⟨f, fd, h1, h2, h3, h4⟩ := F
  exact ⟨f, fd, h1, h2, h3, spP_of h4⟩
theorem Good.new {Rl : List D → O → Prop} (F : Good P w K mg base x ps k (spN0 Rl)) : Good P w K mg base x ps k (spN Rl) := by
  obtain ⟨f, fd, h1, h2, h3, h4⟩ := F
  exact ⟨f, fd, h1, h2, h3, spN_of h4⟩
/-- a def whose value hangs on its arguments alone -/
theorem goodP {Rl : List D → D → Prop} (D0 : DefAt K mg x st) (S : FnScope N ps (defScope st)) (T : DTS)
    (hb : ∀ (kV doc pm : Value) (an : Option Addr) (cdv ct : Value) (us : List Value), us.length = ps.length → bindArgs (PySem.W.fnOf x x (defArgs st) (defBody st) (defScope st) .none kV doc pm an cdv ct) ⟨us, []⟩ = Pure.pure (ps.zip us))
    (len : ∀ ds d, Rl ds d → ds.length = ps.length)
    (der : ∀ (f : Addr) (cdv : Value) (A : Around) (outer : List Env) (s : Shared) (H : Hp) (E : XK), Room k (A.deeper (envOfC x (defScope st) s.heap.objs.size f cdv)) →
      DSs (cxOf CX0 P w K mg base N x (defScope st) f cdv A outer s H E).nox (Rg.top K w) (defBody st) T)
    (pure : ∀ ds d, Rl ds d → T { nx := fun _ _ => .non = d, rt := fun d' _ => d' = d } (dstart N ds) g0) : Good P w K mg base x ps (k + 1) (spP Rl) :=
  Good.pure (good_of D0 S T hb (fun ds G R RE ⟨d, h, _⟩ => len ds d h) der fun ds G R RE ⟨d, h, e1, e2⟩ => by
    subst e1 e2
    exact pure ds d h)
/-- .. that tells a new object -/
theorem goodN {Rl : List D → O → Prop} (D0 : DefAt K mg x st) (S : FnScope N ps (defScope st)) (T : DTS)
    (hb : ∀ (kV doc pm : Value) (an : Option Addr) (cdv ct : Value) (us : List Value), us.length = ps.length → bindArgs (PySem.W.fnOf x x (defArgs st) (defBody st) (defScope st) .none kV doc pm an cdv ct) ⟨us, []⟩ = Pure.pure (ps.zip us))
    (len : ∀ ds o, Rl ds o → ds.length = ps.length)
    (der : ∀ (f : Addr) (cdv : Value) (A : Around) (outer : List Env) (s : Shared) (H : Hp) (E : XK), Room k (A.deeper (envOfC x (defScope st) s.heap.objs.size f cdv)) →
      DSs (cxOf CX0 P w K mg base N x (defScope st) f cdv A outer s H E).nox (Rg.top K w) (defBody st) T)
    (pure : ∀ ds o, Rl ds o → T { nx := fun _ _ => False, rt := fun d G' => ∃ p, d = .ref p ∧ G' p = some o } (dstart N ds) g0) : Good P w K mg base x ps (k + 1) (spN Rl) :=
  Good.new (good_of D0 S T hb (fun ds G R RE ⟨d, h, _⟩ => len ds d h) der fun ds G R RE ⟨o, h, e1, e2⟩ => by
    subst e1 e2
    have hn : (fun (_ : DSt) (G' : DG) => ∃ p, D.non = .ref p ∧ G' p = some o) = fun _ _ => False := by
      funext _ _
      simp
    rw [hn]
    exact pure ds o h)
end
end DD

/-! D-layer 16: promises, rules for loops, the law's end -/
namespace DD
open PySem PySem.Spec PyProof.Rows L2 SeqAt
/-- one of some values, by the arguments -/
def spQ (pre : List D → Prop) (Rl : List D → D → Prop) : DSp := fun ds G R _ => pre ds ∧ ∀ d, Rl ds d → R d G
def spQ0 (pre : List D → Prop) (Rl : List D → D → Prop) : DSp := fun ds G R _ => pre ds ∧ G = g0 ∧ R = fun d' _ => Rl ds d'
section
variable {P : Program} {w : World} {K : PySem.W.Frag} {mg : Str → Option Value} {base : Heap} {x : Str} {st : Stmt} {N ps : List Str} {k : Nat} {sp : DSp} {pre : List D → Prop} {Rl : List D → D → Prop} {f : Addr} {fd : FuncData}
theorem spQ_of {CX : CXT} (F : FnOk P w K mg base CX k f fd ps (lsp K w (spQ0 pre Rl))) : FnOk P w K mg base CX k f fd ps (lsp K w (spQ pre Rl)) := by
  refine F.imp fun vs H Q E ⟨ds, G, R, RE, r, ab, ⟨h1, h2⟩, k1, k2⟩ => ?_
  refine ⟨ds, g0, fun d' _ => Rl ds d', fun _ _ => False, r, .empty, ⟨h1, rfl, rfl⟩, fun d' G' v H' e s rd => ?_, fun _ _ _ h => h.elim⟩
  exact k1 _ _ _ _ (h2 d' e) (s.pure ab) rd
theorem fnok_of (F : FunD K x x (defArgs st) (defBody st) (defScope st) [] [] f fd) (S : FnScope N ps (defScope st)) (T : DTS) (len : ∀ ds G R RE, sp ds G R RE → ds.length = ps.length)
    (der : ∀ (f : Addr) (cdv : Value) (A : Around) (outer : List Env) (s : Shared) (H : Hp) (E : XK), Room k (A.deeper (envOfC x (defScope st) s.heap.objs.size f cdv)) →
      DSs (cxOf CX0 P w K mg base N x (defScope st) f cdv A outer s H E).nox (Rg.top K w) (defBody st) T)
    (pure : ∀ ds G R RE, sp ds G R RE → T { nx := fun _ G' => R .non G', rt := R } (dstart N ds) G) : FnOk P w K mg base CX0 (k + 1) f fd ps (lsp K w sp) := by
  refine F.ok S (fun vs H Q E ⟨ds, G, R, RE, r, _, h, _⟩ => by rw [← r.length]; exact len _ _ _ _ h) fun cdv A outer s H vs Q E hr ⟨ds, G, R, RE, r, ab, h, k1, _⟩ => ⟨_, PSs.nox (der f cdv A outer s H E hr), ?_⟩
  refine ⟨dstart N ds, G, _, ⟨ab, trivial⟩, start_den r, pure ds G R RE h, fun δ' G' σ' H' q s' d' => k1 .non G' .non H' q s' .non, fun d G' v H' q s' r' => k1 d G' v H' q s' r', fun _ _ _ _ q => q.elim, fun _ _ _ _ q => q.elim⟩
theorem Good.pureQ (F : Good P w K mg base x ps k (spQ0 pre Rl)) : Good P w K mg base x ps k (spQ pre Rl) := by
  obtain ⟨f, fd, h1, h2, h3, h4⟩ := F
  exact ⟨f, fd, h1, h2, h3, spQ_of h4⟩
theorem goodQ (D0 : DefAt K mg x st) (S : FnScope N ps (defScope st)) (T : DTS)
    (hb : ∀ (kV doc pm : Value) (an : Option Addr) (cdv ct : Value) (us : List Value), us.length = ps.length → bindArgs (PySem.W.fnOf x x (defArgs st) (defBody st) (defScope st) .none kV doc pm an cdv ct) ⟨us, []⟩ = Pure.pure (ps.zip us))
    (len : ∀ ds, pre ds → ds.length = ps.length)
    (der : ∀ (f : Addr) (cdv : Value) (A : Around) (outer : List Env) (s : Shared) (H : Hp) (E : XK), Room k (A.deeper (envOfC x (defScope st) s.heap.objs.size f cdv)) →
      DSs (cxOf CX0 P w K mg base N x (defScope st) f cdv A outer s H E).nox (Rg.top K w) (defBody st) T)
    (pure : ∀ ds, pre ds → T { nx := fun _ _ => Rl ds .non, rt := fun d' _ => Rl ds d' } (dstart N ds) g0) : Good P w K mg base x ps (k + 1) (spQ pre Rl) :=
  Good.pureQ (good_of D0 S T hb (fun ds G R RE ⟨h, _⟩ => len ds h) der fun ds G R RE ⟨h, e1, e2⟩ => by
    subst e1 e2
    exact pure ds h)
end

/-! ### loops -/
theorem forL_ind {chk : DG → Prop} {g : DTG} {B : DTS} {E : DEnds} {ds : List D} (P : Nat → DSt → DG → Prop)
    (step : ∀ (i : Nat) (d : D) (F : DSt → DG → Prop), ds[i]? = some d → (∀ δ G, P (i + 1) δ G → F δ G) → ∀ δ G, P i δ G → chk G ∧ g d δ G fun δ' G' => B { nx := F, ct := F, bk := E.nx, rt := E.rt } δ' G')
    (fin : ∀ δ G, P ds.length δ G → chk G ∧ E.nx δ G) : ∀ δ G, P 0 δ G → forL chk g B E ds δ G := by
  have go : ∀ (m i : Nat), i + m = ds.length → ∀ δ G, P i δ G → forL chk g B E (ds.drop i) δ G := by
    intro m
    induction m with
    | zero =>
      intro i hi δ G h
      have e : i = ds.length := by omega
      subst e
      rw [List.drop_length]
      exact fin δ G h
    | succ m ih =>
      intro i hi δ G h
      have hlt : i < ds.length := by omega
      rw [List.drop_eq_getElem_cons hlt]
      exact step i _ _ (List.getElem?_eq_getElem hlt) (fun δ' G' h' => ih (i + 1) (by omega) δ' G' h') δ G h
  intro δ G h
  exact go ds.length 0 (by omega) δ G h
/-- over a range -/
theorem forR_ind {g : DTG} {B : DTS} {E : DEnds} {lo : Int} {n : Nat} (P : Nat → DSt → DG → Prop)
    (step : ∀ (i : Nat) (F : DSt → DG → Prop), i < n → (∀ δ G, P (i + 1) δ G → F δ G) → ∀ δ G, P i δ G → g (.int (lo + i)) δ G fun δ' G' => B { nx := F, ct := F, bk := E.nx, rt := E.rt } δ' G')
    (fin : ∀ δ G, P n δ G → E.nx δ G) : ∀ δ G, P 0 δ G → forL (fun _ => True) g B E (irow lo n) δ G := by
  refine forL_ind P (fun i d F hd hF δ G h => ⟨trivial, ?_⟩) fun δ G h => ⟨trivial, fin δ G (by rw [irow_len] at h; exact h)⟩
  have hi : i < n := by
    have := (List.getElem?_eq_some_iff.mp hd).1
    rw [irow_len] at this
    exact this
  have e : d = .int (lo + i) := by
    have : (irow lo n)[i]? = some (.int (lo + i)) := by simp [irow, hi]
    rw [hd] at this
    cases this
    rfl
  subst e
  exact step i F hi hF δ G h
theorem lcL_ind {chk : DG → Prop} {g : DTG} {C : DTT} {Te : DTE} {δ : DSt} {Q : DK} {ds : List D} (P : Nat → List D → DG → Prop)
    (step : ∀ (i : Nat) (d : D) (F : List D → DG → Prop), ds[i]? = some d → (∀ acc G, P (i + 1) acc G → F acc G) → ∀ acc G, P i acc G →
      chk G ∧ g d δ G fun δ2 G2 => C δ2 G2 fun b G3 => if b = true then Te δ2 G3 fun y G4 => F (acc ++ [y]) G4 else F acc G3)
    (fin : ∀ acc G, P ds.length acc G → chk G ∧ ∀ p, G p = none → Q (.ref p) (gup G p (.lst acc))) : ∀ acc G, P 0 acc G → lcL chk g C Te δ Q ds acc G := by
  have go : ∀ (m i : Nat), i + m = ds.length → ∀ acc G, P i acc G → lcL chk g C Te δ Q (ds.drop i) acc G := by
    intro m
    induction m with
    | zero =>
      intro i hi acc G h
      have e : i = ds.length := by omega
      subst e
      rw [List.drop_length]
      exact fin acc G h
    | succ m ih =>
      intro i hi acc G h
      have hlt : i < ds.length := by omega
      rw [List.drop_eq_getElem_cons hlt]
      exact step i _ _ (List.getElem?_eq_getElem hlt) (fun acc' G' h' => ih (i + 1) (by omega) acc' G' h') acc G h
  intro acc G h
  exact go ds.length 0 (by omega) acc G h
theorem whileL_ind {C : DTT} {B : DTS} {E : DEnds} (P : Nat → DSt → DG → Prop)
    (step : ∀ (m : Nat) (F : DSt → DG → Prop), (∀ δ G, P m δ G → F δ G) → ∀ δ G, P (m + 1) δ G → C δ G fun b G1 => if b = true then B { nx := F, ct := F, bk := E.nx, rt := E.rt } δ G1 else E.nx δ G1)
    (zero : ∀ δ G, P 0 δ G → False) : ∀ m δ G, P m δ G → whileL C B E m δ G := by
  intro m
  induction m with
  | zero => intro δ G h; exact (zero δ G h).elim
  | succ m ih =>
    intro δ G h
    exact step m _ ih δ G h

/-! ### the law's end -/
def lawPre (ds : List D) : Prop := ∃ xs : List Int, ds = [.scr (xs.map .int)]
def spLaw : DSp := spQ lawPre fun _ d => d = .bl true
theorem scr_den {K : PySem.W.Frag} {H : Hp} {a : Addr} {ns : List Int} (hO : Only H) (h : SqL K H a (ns.map V.int)) : Den K H (.scr (ns.map .int)) (.ref a) := by
  refine .scr (vs := ns.map V.int) ?_ ?_
  · rcases h with (h | ⟨o, h⟩) | h
    · rcases hO a with z | ⟨o, xs, z⟩
      · rw [z] at h; cases h
      · rw [z] at h; cases h
    · exact .inl ⟨o, h⟩
    · exact .inr h
  · clear h
    induction ns with
    | nil => exact .nil
    | cons n ns ih => exact .cons (.int n) ih
theorem law_sp {K : PySem.W.Frag} {w : World} {H : Hp} {a : Addr} {ns : List Int} (hO : Only H) (h : SqL K H a (ns.map V.int)) : lsp K w spLaw [.ref a] H (fun v _ => v = .bl true) fun _ _ _ => False := by
  refine ⟨[.scr (ns.map .int)], g0, fun d _ => d = .bl true, fun _ _ => False, .one (scr_den hO h), .empty, ⟨⟨ns, rfl⟩, fun d e => e⟩, fun d G' v H' e s r => ?_, fun _ _ _ h => h.elim⟩
  subst e
  cases r
  rfl
end DD

/-! D-layer 17: what the operations tell, in plain words -/
namespace DD
open PySem PySem.Spec PyProof.Rows L2 SeqAt
section
variable {G : DG} {Q : DK}
theorem ob_true {α : Type} {a : α} {k : α → Prop} : ob (some a) k = k a := rfl
theorem rOrd_int {k : Co} {a b : Int} : rOrd k (.int a) (.int b) G Q = Q (.bl (k.int a b)) G := by
  refine propext ⟨fun h => ?_, fun h => ?_⟩
  · exact h.2
  · exact ⟨⟨rfl, rfl, by show 0 ≤ 60; omega⟩, h⟩
theorem rOrd_str {k : Co} {a b : Str} : rOrd k (.str a) (.str b) G Q = Q (.bl (k.str a b)) G := by
  refine propext ⟨fun h => ?_, fun h => ?_⟩
  · exact h.2
  · exact ⟨⟨rfl, rfl, by show 0 ≤ 60; omega⟩, h⟩
theorem rLt_int {a b : Int} : rOrd .lt (.int a) (.int b) G Q = Q (.bl (decide (a < b))) G := rOrd_int
theorem rLe_int {a b : Int} : rOrd .le (.int a) (.int b) G Q = Q (.bl (decide (a ≤ b))) G := rOrd_int
theorem rGt_int {a b : Int} : rOrd .gt (.int a) (.int b) G Q = Q (.bl (decide (b < a))) G := rOrd_int
theorem rGe_int {a b : Int} : rOrd .ge (.int a) (.int b) G Q = Q (.bl (decide (b ≤ a))) G := rOrd_int
theorem rLt_str {a b : Str} : rOrd .lt (.str a) (.str b) G Q = Q (.bl (decide (a.cps.toList < b.cps.toList))) G := rOrd_str
theorem rLe_str {a b : Str} : rOrd .le (.str a) (.str b) G Q = Q (.bl (!decide (b.cps.toList < a.cps.toList))) G := rOrd_str
theorem rGt_str {a b : Str} : rOrd .gt (.str a) (.str b) G Q = Q (.bl (decide (b.cps.toList < a.cps.toList))) G := rOrd_str
theorem rGe_str {a b : Str} : rOrd .ge (.str a) (.str b) G Q = Q (.bl (!decide (a.cps.toList < b.cps.toList))) G := rOrd_str
theorem rOrd_encS {a b : Stp} : rOrd .lt (encS a) (encS b) G Q = Q (.bl (ltS a b)) G := by
  unfold rOrd
  rw [ord_stamp, ob_some]
  refine propext ⟨fun h => h.2, fun h => ⟨⟨rfl, rfl, ?_⟩, h⟩⟩
  show max 0 (max 0 0) + 1 ≤ 60
  omega
def eqD (a b : D) : Bool := eqP (toP a) (toP b)
theorem rEq_flat {d e : D} (f1 : flat d = true) (f2 : flat e = true) (h : dpP (toP d) ≤ 60 ∨ dpP (toP e) ≤ 60) : DD.rEq d e G Q = Q (.bl (eqD d e)) G := by
  unfold DD.rEq
  rw [res_flat f1, res_flat f2]
  exact propext ⟨fun q => q.2, fun q => ⟨h, q⟩⟩
theorem rNe_flat {d e : D} (f1 : flat d = true) (f2 : flat e = true) (h : dpP (toP d) ≤ 60 ∨ dpP (toP e) ≤ 60) : DD.rNe d e G Q = Q (.bl (!eqD d e)) G := by
  unfold DD.rNe
  rw [res_flat f1, res_flat f2]
  exact propext ⟨fun q => q.2, fun q => ⟨h, q⟩⟩
theorem rEq_int {a b : Int} : DD.rEq (.int a) (.int b) G Q = Q (.bl (a == b)) G := rEq_flat rfl rfl (.inl (by show 0 ≤ 60; omega))
theorem rEq_str {a b : Str} : DD.rEq (.str a) (.str b) G Q = Q (.bl (a == b)) G := rEq_flat rfl rfl (.inl (by show 0 ≤ 60; omega))
theorem rEq_bl {a b : Bool} : DD.rEq (.bl a) (.bl b) G Q = Q (.bl (a == b)) G := by
  rw [rEq_flat rfl rfl (.inl (by show 0 ≤ 60; omega))]
  have : eqD (.bl a) (.bl b) = (a == b) := by cases a <;> cases b <;> rfl
  rw [this]
theorem rNe_str {a b : Str} : DD.rNe (.str a) (.str b) G Q = Q (.bl (!(a == b))) G := rNe_flat rfl rfl (.inl (by show 0 ≤ 60; omega))
theorem rNe_int {a b : Int} : DD.rNe (.int a) (.int b) G Q = Q (.bl (!(a == b))) G := rNe_flat rfl rfl (.inl (by show 0 ≤ 60; omega))
/-- an option of a stamp -/
def encO : Option Stp → D
  | none => .non
  | some s => encS s
theorem flat_encO (o : Option Stp) : flat (encO o) = true := by cases o <;> rfl
theorem dp_encS (s : Stp) : dpP (toP (encS s)) = 1 := rfl
theorem dp_encO (o : Option Stp) : dpP (toP (encO o)) ≤ 1 := by
  cases o with
  | none => show 0 ≤ 1; omega
  | some s => rw [encO, dp_encS]; omega
theorem eqD_encS {a b : Stp} : eqD (encS a) (encS b) = decide (a = b) := by
  obtain ⟨n, x⟩ := a
  obtain ⟨m, y⟩ := b
  have e : eqD (encS (n, x)) (encS (m, y)) = ((n == m) && ((x == y) && true)) := rfl
  rw [e]
  by_cases h1 : n = m
  · by_cases h2 : x = y
    · subst h1 h2; simp
    · have : (x == y) = false := by simpa using h2
      rw [this]
      simp [h2]
  · have : (n == m) = false := by simpa using h1
    rw [this]
    simp [h1]
theorem eqD_encO {a b : Option Stp} : eqD (encO a) (encO b) = decide (a = b) := by
  cases a with
  | none =>
    cases b with
    | none => rfl
    | some b => rfl
  | some a =>
    cases b with
    | none => rfl
    | some b =>
      show eqD (encS a) (encS b) = _
      rw [eqD_encS]
      simp
theorem rEq_encO {a b : Option Stp} : DD.rEq (encO a) (encO b) G Q = Q (.bl (decide (a = b))) G := by
  rw [rEq_flat (flat_encO a) (flat_encO b) (.inl (by have := dp_encO a; omega)), eqD_encO]
theorem rEq_encS {a b : Stp} : DD.rEq (encS a) (encS b) G Q = Q (.bl (decide (a = b))) G := by
  rw [rEq_flat rfl rfl (.inl (by rw [dp_encS]; omega)), eqD_encS]
theorem rEq_OS {a : Option Stp} {b : Stp} : DD.rEq (encO a) (encS b) G Q = Q (.bl (decide (a = some b))) G := rEq_encO (b := some b)
theorem rEq_lst {a b : Addr} {xs ys : List D} (h1 : G a = some (.lst xs)) (h2 : G b = some (.lst ys)) (f1 : flats xs = true) (f2 : flats ys = true) (hd : dpPs (toPs xs) ≤ 50) : DD.rEq (.ref a) (.ref b) G Q = Q (.bl (eqPs (toPs xs) (toPs ys))) G := by
  unfold DD.rEq
  have e1 : res G (.ref a) = some (.lst (toPs xs)) := by rw [res, h1]; simp [f1]
  have e2 : res G (.ref b) = some (.lst (toPs ys)) := by rw [res, h2]; simp [f2]
  rw [e1, e2]
  refine propext ⟨fun q => q.2, fun q => ⟨.inl ?_, q⟩⟩
  show dpPs (toPs xs) + 1 ≤ 60
  omega
theorem eqPs_nil {xs : List D} : eqPs (toPs xs) (toPs []) = xs.isEmpty := by cases xs <;> rfl
/-! ### items -/
theorem atI_0 {α : Type} {a : α} {l : List α} : atI (a :: l) 0 = some a := by
  unfold atI ixN
  rw [if_pos (by omega), if_pos (by simp only [List.length_cons]; omega)]
  rfl
theorem atI_1 {α : Type} {a b : α} {l : List α} : atI (a :: b :: l) 1 = some b := by
  unfold atI ixN
  rw [if_pos (by omega), if_pos (by simp only [List.length_cons]; omega)]
  rfl
theorem atI_2 {α : Type} {a b c : α} {l : List α} : atI (a :: b :: c :: l) 2 = some c := by
  unfold atI ixN
  rw [if_pos (by omega), if_pos (by simp only [List.length_cons]; omega)]
  rfl
theorem atI_3 {α : Type} {a b c d : α} {l : List α} : atI (a :: b :: c :: d :: l) 3 = some d := by
  unfold atI ixN
  rw [if_pos (by omega), if_pos (by simp only [List.length_cons]; omega)]
  rfl
theorem atI_4 {α : Type} {a b c d e : α} {l : List α} : atI (a :: b :: c :: d :: e :: l) 4 = some e := by
  unfold atI ixN
  rw [if_pos (by omega), if_pos (by simp only [List.length_cons]; omega)]
  rfl
theorem atI_5 {α : Type} {a b c d e f : α} {l : List α} : atI (a :: b :: c :: d :: e :: f :: l) 5 = some f := by
  unfold atI ixN
  rw [if_pos (by omega), if_pos (by simp only [List.length_cons]; omega)]
  rfl
theorem atI_nat {α : Type} {l : List α} {k : Nat} {a : α} (h : l[k]? = some a) : atI l (k : Int) = some a := by
  have hk := (List.getElem?_eq_some_iff.mp h).1
  unfold atI ixN
  rw [if_pos (by omega), if_pos (by omega)]
  simpa using h
theorem atI_int {α : Type} {l : List α} {r : Int} (h0 : 0 ≤ r) (h1 : r < l.length) : ∃ a, a ∈ l ∧ atI l r = some a := by
  have hk : r.toNat < l.length := by omega
  refine ⟨l[r.toNat], List.getElem_mem hk, ?_⟩
  have e : ((r.toNat : Nat) : Int) = r := by omega
  have := atI_nat (l := l) (k := r.toNat) (a := l[r.toNat]) (by simp [hk])
  rw [e] at this
  exact this
theorem atI_last {α : Type} {l : List α} : atI l (-1) = l.getLast? := by
  unfold atI ixN
  rw [if_neg (by omega), List.getLast?_eq_getElem?]
  by_cases h : l.length = 0
  · have : l = [] := List.eq_nil_of_length_eq_zero h
    subst this
    simp
  · by_cases h2 : -(l.length : Int) ≤ -1
    · first
        | rw [if_pos h2]
        | skip
      have e : (-1 + (l.length : Int)).toNat = l.length - 1 := by omega
      first
        | (show l[(-1 + (l.length : Int)).toNat]? = _; rw [e])
        | simp [e]
    · omega
theorem atI_snoc {α : Type} {l : List α} {a : α} : atI (l ++ [a]) (-1) = some a := by rw [atI_last]; simp
end
/-! ### statements -/
section
variable {i j l : Nat} {Te To Ti : DTE} {TB : DTA} {g : DTG} {r : DRS} {T U W : DTS} {C : DTT} {E : DEnds} {δ : DSt} {G : DG} {I : DTI}
theorem set_app : dSet i Te E δ G = Te δ G fun d G1 => E.nx (δ.set i (some d)) G1 := rfl
theorem drop_app : dDrop Te E δ G = Te δ G fun _ G1 => E.nx δ G1 := rfl
theorem ret_app : dRet Te E δ G = Te δ G E.rt := rfl
theorem asg_app : dAsg Te g E δ G = Te δ G fun d G1 => g d δ G1 E.nx := rfl
theorem par_app : dPar i j TB E δ G = TB δ G fun ds G1 => match ds with | [d, e] => E.nx ((δ.set i (some d)).set j (some e)) G1 | _ => False := rfl
theorem par3_app : dPar3 i j l TB E δ G = TB δ G fun ds G1 => match ds with | [d, e, f] => E.nx (((δ.set i (some d)).set j (some e)).set l (some f)) G1 | _ => False := rfl
theorem put_app : dPut r To Ti Te E δ G = Te δ G fun d G1 => To δ G1 fun o G2 => Ti δ G2 fun i G3 => r o i d G3 fun G4 => E.nx δ G4 := rfl
theorem next_app : dNext E δ G = E.nx δ G := rfl
theorem cont_app : dCont E δ G = E.ct δ G := rfl
theorem break_app : dBreak E δ G = E.bk δ G := rfl
theorem if_app : dIfS C T U E δ G = C δ G fun b G1 => if b = true then T E δ G1 else U E δ G1 := rfl
theorem for_app : dFor I g T E δ G = I δ G fun ds chk G1 => forL chk g T E ds δ G1 := rfl
theorem while_app : dWhile C T E δ G = ∃ n, whileL C T E n δ G := rfl
theorem seq_set : dSeq (dSet i Te) U E δ G = Te δ G fun d G1 => U E (δ.set i (some d)) G1 := rfl
theorem seq_drop : dSeq (dDrop Te) U E δ G = Te δ G fun _ G1 => U E δ G1 := rfl
theorem seq_ret : dSeq (dRet Te) U E δ G = Te δ G E.rt := rfl
theorem seq_asg : dSeq (dAsg Te g) U E δ G = Te δ G fun d G1 => g d δ G1 (U E) := rfl
theorem seq_par : dSeq (dPar i j TB) U E δ G = TB δ G fun ds G1 => match ds with | [d, e] => U E ((δ.set i (some d)).set j (some e)) G1 | _ => False := rfl
theorem seq_par3 : dSeq (dPar3 i j l TB) U E δ G = TB δ G fun ds G1 => match ds with | [d, e, f] => U E (((δ.set i (some d)).set j (some e)).set l (some f)) G1 | _ => False := rfl
theorem seq_put : dSeq (dPut r To Ti Te) U E δ G = Te δ G fun d G1 => To δ G1 fun o G2 => Ti δ G2 fun i G3 => r o i d G3 fun G4 => U E δ G4 := rfl
theorem seq_next : dSeq dNext U E δ G = U E δ G := rfl
theorem seq_if : dSeq (dIfS C T U) W E δ G = C δ G fun b G1 => if b = true then T { E with nx := W E } δ G1 else U { E with nx := W E } δ G1 := rfl
theorem seq_for : dSeq (dFor I g T) W E δ G = I δ G fun ds chk G1 => forL chk g T { E with nx := W E } ds δ G1 := rfl
theorem seq_while : dSeq (dWhile C T) W E δ G = ∃ n, whileL C T { E with nx := W E } n δ G := rfl
theorem seq_seq : dSeq (dSeq T U) W E δ G = dSeq T (dSeq U W) E δ G := rfl
/-- a cut between two statements -/
theorem seq_cut (M : DSt → DG → Prop) (h1 : ∀ F : DSt → DG → Prop, (∀ δ G, M δ G → F δ G) → T { E with nx := F } δ G) (h2 : ∀ δ G, M δ G → U E δ G) : dSeq T U E δ G := h1 (U E) h2
end
end DD

/-! D-layer 18: the operations at known values -/
namespace DD
open PySem PySem.Spec PyProof.Rows L2 SeqAt
section
variable {G : DG} {Q : DK} {a b : Addr} {xs ys : List D} {es : List (D × D)} {i j : Int} {x y d e : D} {s t : Str} {R : List D → (DG → Prop) → DG → Prop} {δ : DSt}
theorem rAdd_int : DD.rAdd (.int i) (.int j) G Q = Q (.int (i + j)) G := rfl
theorem rAdd_str : DD.rAdd (.str s) (.str t) G Q = (s.length + t.length ≤ 16777216 ∧ Q (.str (s ++ t)) G) := rfl
theorem rAdd_tup : DD.rAdd (.tup xs) (.tup ys) G Q = (xs.length + ys.length ≤ 16777216 ∧ Q (.tup (xs ++ ys)) G) := rfl
theorem rAdd_lst (h1 : G a = some (.lst xs)) (h2 : G b = some (.lst ys)) : DD.rAdd (.ref a) (.ref b) G Q = (xs.length + ys.length ≤ 16777216 ∧ ∀ p, G p = none → Q (.ref p) (gup G p (.lst (xs ++ ys)))) := by
  show (match G a, G b with | some (.lst xs), some (.lst ys) => _ | _, _ => False) = _
  rw [h1, h2]
theorem rSub_int : DD.rSub (.int i) (.int j) G Q = Q (.int (i - j)) G := rfl
theorem rMul_int : DD.rMul (.int i) (.int j) G Q = (CMul i j ∧ Q (.int (i * j)) G) := rfl
theorem rMod_int : DD.rMod (.int i) (.int j) G Q = (0 < j ∧ Q (.int (i % j)) G) := rfl
theorem rFdiv_int : DD.rFdiv (.int i) (.int j) G Q = ((0 < j ∧ j < 1073741824) ∧ Q (.int (i / j)) G) := rfl
theorem rNeg_int : DD.rNeg (.int i) G Q = Q (.int (-i)) G := rfl
theorem rIs_non : DD.rIs d .non G Q = Q (.bl (isNonD d)) G := rfl
theorem rIsNot_non : DD.rIsNot d .non G Q = Q (.bl (!isNonD d)) G := rfl
theorem rIs_bl {p q : Bool} : DD.rIs (.bl p) (.bl q) G Q = Q (.bl (p == q)) G := rfl
theorem rIx_str : DD.rIx (.str s) (.int i) G Q = ob (atI s.cps.toList i) fun c => Q (.str ⟨#[c]⟩) G := rfl
theorem rIx_tup : DD.rIx (.tup xs) (.int i) G Q = ob (atI xs i) fun d => Q d G := rfl
theorem rIx_scr : DD.rIx (.scr xs) (.int i) G Q = ob (atI xs i) fun d => Q d G := rfl
theorem rIx_lst (h : G a = some (.lst xs)) : DD.rIx (.ref a) (.int i) G Q = ob (atI xs i) fun d => Q d G := by
  show (match G a with | some (.lst ds) => _ | some (.dct es) => _ | _ => False) = _
  rw [h]
theorem rIx_dct (h : G a = some (.dct es)) : DD.rIx (.ref a) e G Q = (keyOk e ∧ ob (dgetE (keyD e) es) fun d => Q d G) := by
  show (match G a with | some (.lst ds) => _ | some (.dct es) => _ | _ => False) = _
  rw [h]
theorem rLen_str : DD.rLen [.str s] G Q = Q (.int s.length) G := rfl
theorem rLen_tup : DD.rLen [.tup xs] G Q = Q (.int xs.length) G := rfl
theorem rLen_scr : DD.rLen [.scr xs] G Q = Q (.int xs.length) G := rfl
theorem rLen_lst (h : G a = some (.lst xs)) : DD.rLen [.ref a] G Q = Q (.int xs.length) G := by
  show (match G a with | some (.lst xs) => _ | _ => False) = _
  rw [h]
theorem rTuple_tup : DD.rTuple [.tup xs] G Q = Q (.tup xs) G := rfl
theorem rTuple_lst (h : G a = some (.lst xs)) : DD.rTuple [.ref a] G Q = Q (.tup xs) G := by
  show (match G a with | some (.lst xs) => _ | _ => False) = _
  rw [h]
theorem rList_tup : DD.rList [.tup xs] G Q = ∀ p, G p = none → Q (.ref p) (gup G p (.lst xs)) := rfl
theorem rList_lst (h : G a = some (.lst xs)) : DD.rList [.ref a] G Q = ∀ p, G p = none → Q (.ref p) (gup G p (.lst xs)) := by
  show (match G a with | some (.lst xs) => _ | _ => False) = _
  rw [h]
theorem rIn_tup : DD.rIn x (.tup ys) G Q = ob (res G x) fun p => ob (ress G ys) fun qs => (dpP p ≤ 60 ∨ dpPs qs ≤ 60) ∧ Q (.bl (qs.any fun q => eqP q p)) G := rfl
theorem toPs_any (f : Pd → Bool) : ∀ l : List D, (toPs l).any f = l.any fun d => f (toP d)
  | [] => rfl
  | d :: l => by
    show (f (toP d) || (toPs l).any f) = (f (toP d) || l.any _)
    rw [toPs_any f l]
theorem rIn_flat (f1 : flat x = true) (f2 : flats ys = true) (h : dpP (toP x) ≤ 60) : DD.rIn x (.tup ys) G Q = Q (.bl (ys.any fun q => eqD q x)) G := by
  rw [rIn_tup, res_flat f1, ob_true, ress_flat f2, ob_true, toPs_any]
  exact propext ⟨fun q => q.2, fun q => ⟨.inl h, q⟩⟩
theorem rNotIn_flat (f1 : flat x = true) (f2 : flats ys = true) (h : dpP (toP x) ≤ 60) : DD.rNotIn x (.tup ys) G Q = Q (.bl (!(ys.any fun q => eqD q x))) G := by
  unfold DD.rNotIn neg
  rw [rIn_flat f1 f2 h]
theorem eqD_str : eqD (.str s) (.str t) = (s == t) := rfl
theorem eqD_int : eqD (.int i) (.int j) = (i == j) := rfl
theorem rIn_s1 {u : Str} : DD.rIn (.str s) (.tup [.str u]) G Q = Q (.bl (u == s)) G := by
  rw [rIn_flat rfl rfl (by show 0 ≤ 60; omega)]
  simp only [List.any_cons, List.any_nil, eqD_str, Bool.or_false]
theorem rIn_s2 {u v : Str} : DD.rIn (.str s) (.tup [.str u, .str v]) G Q = Q (.bl (u == s || v == s)) G := by
  rw [rIn_flat rfl rfl (by show 0 ≤ 60; omega)]
  simp only [List.any_cons, List.any_nil, eqD_str, Bool.or_false]
theorem rIn_s3 {u v w : Str} : DD.rIn (.str s) (.tup [.str u, .str v, .str w]) G Q = Q (.bl (u == s || (v == s || w == s))) G := by
  rw [rIn_flat rfl rfl (by show 0 ≤ 60; omega)]
  simp only [List.any_cons, List.any_nil, eqD_str, Bool.or_false]
theorem rIn_dct (h : G a = some (.dct es)) : DD.rIn x (.ref a) G Q = (keyOk x ∧ Q (.bl (dgetE (keyD x) es).isSome) G) := by
  show (match G a with | some (.lst ds) => _ | some (.dct es) => _ | _ => False) = _
  rw [h]
theorem rAppend_lst (h : G a = some (.lst xs)) : DD.rAppend (.ref a) [y] G Q = (xs.length < 16777216 ∧ Q .non (gup G a (.lst (xs ++ [y])))) := by
  show (match G a with | some (.lst xs) => _ | _ => False) = _
  rw [h]
theorem rExtend_lst (h1 : G a = some (.lst xs)) (h2 : G b = some (.lst ys)) : DD.rExtend (.ref a) [.ref b] G Q = (xs.length + ys.length ≤ 16777216 ∧ Q .non (gup G a (.lst (xs ++ ys)))) := by
  show (match G a, G b with | some (.lst xs), some (.lst ys) => _ | _, _ => False) = _
  rw [h1, h2]
theorem rPop_snoc (h : G a = some (.lst (xs ++ [y]))) : DD.rPop (.ref a) [] G Q = Q y (gup G a (.lst xs)) := by
  show (match G a with | some (.lst xs) => ob xs.getLast? fun y => Q y (gup G a (.lst xs.dropLast)) | _ => False) = _
  rw [h]
  show ob (xs ++ [y]).getLast? _ = _
  rw [List.getLast?_concat, ob_true, List.dropLast_concat]
theorem rGet_dct (h : G a = some (.dct es)) : DD.rGet (.ref a) [x, y] G Q = (keyOk x ∧ Q ((dgetE (keyD x) es).getD y) G) := by
  show (match G a with | some (.dct es) => _ | _ => False) = _
  rw [h]
theorem rSetDef_dct (h : G a = some (.dct es)) : DD.rSetDef (.ref a) [x, y] G Q = ((keyOk x ∧ es.length < 16777216) ∧ (match dgetE (keyD x) es with
      | some d => Q d G
      | none => Q y (gup G a (.dct (es ++ [(x, y)]))))) := by
  show (match G a with | some (.dct es) => _ | _ => False) = _
  rw [h]
  all_goals rfl
theorem encS_map_inj : ∀ {L L' : List Stp}, L.map encS = L'.map encS → L = L'
  | [], [], _ => rfl
  | [], _ :: _, h => by simp at h
  | _ :: _, [], h => by simp at h
  | x :: L, y :: L', h => by
    rw [List.map_cons, List.map_cons, List.cons.injEq] at h
    have e : x = y := by
      obtain ⟨a, b⟩ := x
      obtain ⟨c, d⟩ := y
      have z := h.1
      simp only [encS, D.tup.injEq, List.cons.injEq, D.int.injEq, D.str.injEq, and_true] at z
      rw [z.1, z.2]
    rw [e, encS_map_inj h.2]
theorem rSorted_lst {L : List Stp} (h : G a = some (.lst (L.map encS))) : DD.rSorted [.ref a] G Q = ∀ p, G p = none → Q (.ref p) (gup G p (.lst ((sortS L).map encS))) := by
  have e : DD.rSorted [.ref a] G Q = ∃ L', L.map encS = L'.map encS ∧ ∀ p, G p = none → Q (.ref p) (gup G p (.lst ((sortS L').map encS))) := by
    unfold DD.rSorted
    simp only [h]
  rw [e]
  refine propext ⟨fun ⟨L', e, q⟩ => ?_, fun q => ⟨L, rfl, q⟩⟩
  rw [encS_map_inj e]
  exact q
theorem rSorted_dct {es : List (D × D)} {L : List Stp} (h : G a = some (.dct es)) (e : es.map (·.1) = L.map encS) (hz : es.length ≤ 16777216) (q : ∀ p, G p = none → Q (.ref p) (gup G p (.lst ((sortS L).map encS)))) : DD.rSorted [.ref a] G Q := by
  unfold DD.rSorted
  simp only [h]
  exact ⟨L, e, hz, q⟩
theorem rMax2_int : DD.rMax2 [.int i, .int j] G Q = Q (.int (if j > i then j else i)) G := rfl
theorem rMin2_int : DD.rMin2 [.int i, .int j] G Q = Q (.int (if j < i then j else i)) G := rfl
theorem rInt1_int : DD.rInt1 [.int i] G Q = Q (.int i) G := rfl
theorem rAll_lst {bs : List Bool} (h : G a = some (.lst (bs.map .bl))) : DD.rAll [.ref a] G Q = Q (.bl (bs.all id)) G := by
  show (match G a with | some (.lst xs) => ob (blsOf xs) fun bs => Q (.bl (bs.all id)) G | _ => False) = _
  rw [h]
  have : ∀ bs : List Bool, blsOf (bs.map .bl) = some bs := by
    intro bs
    induction bs with
    | nil => rfl
    | cons b bs ih => simp [blsOf, ih]
  show ob (blsOf (bs.map .bl)) _ = _
  rw [this]
  rfl
theorem rAny_lst {bs : List Bool} (h : G a = some (.lst (bs.map .bl))) : DD.rAny [.ref a] G Q = Q (.bl (bs.any id)) G := by
  show (match G a with | some (.lst xs) => ob (blsOf xs) fun bs => Q (.bl (bs.any id)) G | _ => False) = _
  rw [h]
  have : ∀ bs : List Bool, blsOf (bs.map .bl) = some bs := by
    intro bs
    induction bs with
    | nil => rfl
    | cons b bs ih => simp [blsOf, ih]
  show ob (blsOf (bs.map .bl)) _ = _
  rw [this]
  rfl
theorem seqX_tup : (fun d G1 => match d with
  | .tup ds => R ds (fun _ => True) G1
  | .str x => R (signs x) (fun _ => True) G1
  | .ref a => (match G1 a with
    | some (.lst ds) => R ds (fun G' => G' a = some (.lst ds)) G1
    | _ => False)
  | _ => False : DK) (.tup xs) G = R xs (fun _ => True) G := rfl
/-! a list behind a dVar -/
def seqK (d : D) (G1 : DG) (R : List D → (DG → Prop) → DG → Prop) : Prop := match d with
  | .tup ds => R ds (fun _ => True) G1
  | .str x => R (signs x) (fun _ => True) G1
  | .ref a => (match G1 a with
    | some (.lst ds) => R ds (fun G' => G' a = some (.lst ds)) G1
    | _ => False)
  | _ => False
theorem seqX_app {Te : DTE} : dSeqX Te δ G R = Te δ G fun d G1 => seqK d G1 R := rfl
theorem seqK_tup : seqK (.tup xs) G R = R xs (fun _ => True) G := rfl
theorem seqK_str : seqK (.str s) G R = R (signs s) (fun _ => True) G := rfl
theorem seqK_lst (h : G a = some (.lst xs)) : seqK (.ref a) G R = R xs (fun G' => G' a = some (.lst xs)) G := by
  show (match G a with | some (.lst ds) => _ | _ => False) = _
  rw [h]
def zipK (ds : List D) (G1 : DG) (R : List D → (DG → Prop) → DG → Prop) : Prop := match ds with
  | [.tup xs, .tup ys] => R (zipD xs ys) (fun _ => True) G1
  | [.ref a, .ref b] => (match G1 a, G1 b with
    | some (.lst xs), some (.lst ys) => R (zipD xs ys) (fun G' => G' a = some (.lst xs) ∧ G' b = some (.lst ys)) G1
    | _, _ => False)
  | _ => False
theorem zip_app {TB : DTA} : dZip TB δ G R = TB δ G fun ds G1 => zipK ds G1 R := rfl
theorem zipK_tup : zipK [.tup xs, .tup ys] G R = R (zipD xs ys) (fun _ => True) G := rfl
theorem zipK_lst (h1 : G a = some (.lst xs)) (h2 : G b = some (.lst ys)) : zipK [.ref a, .ref b] G R = R (zipD xs ys) (fun G' => G' a = some (.lst xs) ∧ G' b = some (.lst ys)) G := by
  show (match G a, G b with | some (.lst xs), some (.lst ys) => _ | _, _ => False) = _
  rw [h1, h2]
def revK (d : D) (G1 : DG) (Q : DK) : Prop := match d with
  | .tup ds => Q (.tup ds.reverse) G1
  | .ref a => (match G1 a with
    | some (.lst ds) => ∀ p, G1 p = none → Q (.ref p) (gup G1 p (.lst ds.reverse))
    | _ => False)
  | _ => False
theorem rev_app {Te : DTE} : dRev Te δ G Q = Te δ G fun d G1 => revK d G1 Q := rfl
theorem revK_tup : revK (.tup xs) G Q = Q (.tup xs.reverse) G := rfl
theorem revK_lst (h : G a = some (.lst xs)) : revK (.ref a) G Q = ∀ p, G p = none → Q (.ref p) (gup G p (.lst xs.reverse)) := by
  show (match G a with | some (.lst ds) => _ | _ => False) = _
  rw [h]
theorem isTy_lst (h : G a = some (.lst xs)) : isTy "list" (.ref a) G = True := by
  show (match G a with | some (.lst _) => ("list" = "list") | some (.dct _) => ("list" = "dict") | _ => False) = _
  rw [h]
  exact eq_true rfl
theorem isTy_dct (h : G a = some (.dct es)) : isTy "dict" (.ref a) G = True := by
  show (match G a with | some (.lst _) => ("dict" = "list") | some (.dct _) => ("dict" = "dict") | _ => False) = _
  rw [h]
  exact eq_true rfl
theorem isTy_str : isTy "str" (.str s) G = True := eq_true rfl
theorem if_cut {C : DTT} {T U : DTS} {E : DEnds} (Mt Mf : DG → Prop) (h1 : ∀ K : Bool → DG → Prop, (∀ G1, Mt G1 → K true G1) → (∀ G1, Mf G1 → K false G1) → C δ G K) (h2 : ∀ G1, Mt G1 → T E δ G1) (h3 : ∀ G1, Mf G1 → U E δ G1) : dIfS C T U E δ G :=
  h1 (fun b G1 => if b = true then T E δ G1 else U E δ G1) (fun G1 h => by rw [if_pos rfl]; exact h2 G1 h) (fun G1 h => by rw [if_neg Bool.false_ne_true]; exact h3 G1 h)
theorem rSl_str {lo hi : Option Int} : rSl (.str s) lo hi G Q = Q (.str ⟨(cut s.cps.toList lo hi).toArray⟩) G := rfl
theorem rSl_tup {lo hi : Option Int} : rSl (.tup xs) lo hi G Q = Q (.tup (cut xs lo hi)) G := rfl
theorem rSl_lst {lo hi : Option Int} (h : G a = some (.lst xs)) : rSl (.ref a) lo hi G Q = ∀ p, G p = none → Q (.ref p) (gup G p (.lst (cut xs lo hi))) := by
  show (match G a with | some (.lst ds) => _ | _ => False) = _
  rw [h]
end
end DD

/-! D-layer 19: a promise that nobody asks for; isinstance -/
namespace DD
open PySem PySem.Spec PyProof.Rows L2 SeqAt
section
variable {P : Program} {w : World} {K : PySem.W.Frag} {mg : Str → Option Value} {base : Heap} {x : Str} {st : Stmt} {N ps : List Str} {k : Nat} {sp : DSp}
theorem good_never (D0 : DefAt K mg x st) (S : FnScope N ps (defScope st))
    (hb : ∀ (kV doc pm : Value) (an : Option Addr) (cdv ct : Value) (us : List Value), us.length = ps.length → bindArgs (PySem.W.fnOf x x (defArgs st) (defBody st) (defScope st) .none kV doc pm an cdv ct) ⟨us, []⟩ = pure (ps.zip us))
    (no : ∀ ds G R RE, sp ds G R RE → False) : Good P w K mg base x ps (k + 1) sp := by
  obtain ⟨f, fd, hm, F⟩ := D0
  exact ⟨f, fd, hm, F.kp, F.bindsN hb, F.ok S (fun vs H Q E ⟨ds, G, R, RE, r, _, h, _⟩ => (no _ _ _ _ h).elim) fun cdv A outer s H vs Q E hr ⟨ds, G, R, RE, r, ab, h, k1, _⟩ => (no _ _ _ _ h).elim⟩
end
section
variable {G : DG} {Q : DK} {a b : Addr} {xs ys : List D} {es : List (D × D)} {i j : Int} {x y d e : D} {s t : Str} {R : List D → (DG → Prop) → DG → Prop} {δ : DSt}
theorem rIsi_of {T : String} {b : Bool} (hT : T ∈ Tys) (h : isiT T x G = some b) : DD.rIsi [x, .ty T] G Q = Q (.bl b) G := by
  show (T ∈ Tys ∧ ob (isiT T x G) fun b => Q (.bl b) G) = _
  rw [h]
  exact propext ⟨fun q => q.2, fun q => ⟨hT, q⟩⟩
theorem isi_tuple_non : DD.rIsi [.non, .ty "tuple"] G Q = Q (.bl false) G := rIsi_of (by decide) rfl
theorem isi_tuple_bl {b : Bool} : DD.rIsi [.bl b, .ty "tuple"] G Q = Q (.bl false) G := rIsi_of (by decide) (show some _ = some _ by decide)
theorem isi_tuple_int : DD.rIsi [.int i, .ty "tuple"] G Q = Q (.bl false) G := rIsi_of (by decide) (show some _ = some _ by decide)
theorem isi_tuple_str : DD.rIsi [.str s, .ty "tuple"] G Q = Q (.bl false) G := rIsi_of (by decide) (show some _ = some _ by decide)
theorem isi_tuple_tup : DD.rIsi [.tup xs, .ty "tuple"] G Q = Q (.bl true) G := rIsi_of (by decide) (show some _ = some _ by decide)
theorem isi_bool_non : DD.rIsi [.non, .ty "bool"] G Q = Q (.bl false) G := rIsi_of (by decide) rfl
theorem isi_bool_bl {b : Bool} : DD.rIsi [.bl b, .ty "bool"] G Q = Q (.bl true) G := rIsi_of (by decide) (show some _ = some _ by decide)
theorem isi_bool_int : DD.rIsi [.int i, .ty "bool"] G Q = Q (.bl false) G := rIsi_of (by decide) (show some _ = some _ by decide)
theorem isi_bool_str : DD.rIsi [.str s, .ty "bool"] G Q = Q (.bl false) G := rIsi_of (by decide) (show some _ = some _ by decide)
theorem isi_bool_tup : DD.rIsi [.tup xs, .ty "bool"] G Q = Q (.bl false) G := rIsi_of (by decide) (show some _ = some _ by decide)
theorem isi_int_non : DD.rIsi [.non, .ty "int"] G Q = Q (.bl false) G := rIsi_of (by decide) rfl
theorem isi_int_bl {b : Bool} : DD.rIsi [.bl b, .ty "int"] G Q = Q (.bl true) G := rIsi_of (by decide) (show some _ = some _ by decide)
theorem isi_int_int : DD.rIsi [.int i, .ty "int"] G Q = Q (.bl true) G := rIsi_of (by decide) (show some _ = some _ by decide)
theorem isi_int_str : DD.rIsi [.str s, .ty "int"] G Q = Q (.bl false) G := rIsi_of (by decide) (show some _ = some _ by decide)
theorem isi_int_tup : DD.rIsi [.tup xs, .ty "int"] G Q = Q (.bl false) G := rIsi_of (by decide) (show some _ = some _ by decide)
theorem isi_str_non : DD.rIsi [.non, .ty "str"] G Q = Q (.bl false) G := rIsi_of (by decide) rfl
theorem isi_str_bl {b : Bool} : DD.rIsi [.bl b, .ty "str"] G Q = Q (.bl false) G := rIsi_of (by decide) (show some _ = some _ by decide)
theorem isi_str_int : DD.rIsi [.int i, .ty "str"] G Q = Q (.bl false) G := rIsi_of (by decide) (show some _ = some _ by decide)
theorem isi_str_str : DD.rIsi [.str s, .ty "str"] G Q = Q (.bl true) G := rIsi_of (by decide) (show some _ = some _ by decide)
theorem isi_str_tup : DD.rIsi [.tup xs, .ty "str"] G Q = Q (.bl false) G := rIsi_of (by decide) (show some _ = some _ by decide)
theorem isi_list_non : DD.rIsi [.non, .ty "list"] G Q = Q (.bl false) G := rIsi_of (by decide) rfl
theorem isi_list_bl {b : Bool} : DD.rIsi [.bl b, .ty "list"] G Q = Q (.bl false) G := rIsi_of (by decide) (show some _ = some _ by decide)
theorem isi_list_int : DD.rIsi [.int i, .ty "list"] G Q = Q (.bl false) G := rIsi_of (by decide) (show some _ = some _ by decide)
theorem isi_list_str : DD.rIsi [.str s, .ty "list"] G Q = Q (.bl false) G := rIsi_of (by decide) (show some _ = some _ by decide)
theorem isi_list_tup : DD.rIsi [.tup xs, .ty "list"] G Q = Q (.bl false) G := rIsi_of (by decide) (show some _ = some _ by decide)
theorem rIsi_any {c : D} {cs : List D} {b : Bool} (h : isiAny G x (c :: cs) = some b) : DD.rIsi [x, .tup (c :: cs)] G Q = Q (.bl b) G := by
  show (ob (isiAny G x (c :: cs)) fun b => Q (.bl b) G) = _
  rw [h, ob_true]
theorem isi_is_int : DD.rIsi [.int i, .tup [.ty "int", .ty "str"]] G Q = Q (.bl true) G := rIsi_any (by simp [isiAny, isiT, Tys])
theorem isi_is_str : DD.rIsi [.str s, .tup [.ty "int", .ty "str"]] G Q = Q (.bl true) G := rIsi_any (by simp [isiAny, isiT, Tys])
theorem isi_is_non : DD.rIsi [.non, .tup [.ty "int", .ty "str"]] G Q = Q (.bl false) G := rIsi_any (by simp [isiAny, isiT, Tys])
theorem isi_is_tup : DD.rIsi [.tup xs, .tup [.ty "int", .ty "str"]] G Q = Q (.bl false) G := rIsi_any (by simp [isiAny, isiT, Tys])
end
theorem lcR_ind {g : DTG} {C : DTT} {Te : DTE} {δ : DSt} {Q : DK} {lo : Int} {n : Nat} (P : Nat → List D → DG → Prop)
    (step : ∀ (i : Nat) (F : List D → DG → Prop), i < n → (∀ acc G, P (i + 1) acc G → F acc G) → ∀ acc G, P i acc G →
      g (.int (lo + i)) δ G fun δ2 G2 => C δ2 G2 fun b G3 => if b = true then Te δ2 G3 fun y G4 => F (acc ++ [y]) G4 else F acc G3)
    (fin : ∀ acc G, P n acc G → ∀ p, G p = none → Q (.ref p) (gup G p (.lst acc))) : ∀ acc G, P 0 acc G → lcL (fun _ => True) g C Te δ Q (irow lo n) acc G := by
  refine lcL_ind P (fun i d F hd hF acc G h => ⟨trivial, ?_⟩) fun acc G h => ⟨trivial, fun p hp => fin acc G (by rw [irow_len] at h; exact h) p hp⟩
  have hi : i < n := by
    have := (List.getElem?_eq_some_iff.mp hd).1
    rw [irow_len] at this
    exact this
  have e : d = .int (lo + i) := by
    have : (irow lo n)[i]? = some (.int (lo + i)) := by simp [irow, hi]
    rw [hd] at this
    cases this
    rfl
  subst e
  exact step i F hi hF acc G h
end DD

/-! D-layer 20: dicts and tuples of the module -/
namespace DD
open PySem PySem.Spec PyProof.Rows L2 SeqAt
def GlTab (K : PySem.W.Frag) (w : World) (mg : Str → Option Value) (x : Str) (tab : List (Str × D)) : Prop :=
  ∃ p, mg x = some (.ref p) ∧ ∀ z d, (z, d) ∈ tab → ∃ v, L2.KDct K w p z v ∧ ∀ H, Den K H d v
def dTab (tab : List (Str × D)) (Ti : DTE) : DTE := fun δ G Q => Ti δ G fun i G1 => match i with
  | .str z => ∃ d, (z, d) ∈ tab ∧ Q d G1
  | _ => False
section
variable {X : Cx} {ρ : Rg X.K X.w} {e : Expr} {x : Str} {p pos : Pos} {tab : List (Str × D)} {Ti : DTE}
theorem de_tab (c : GlTab X.K X.w X.mg x tab) (hg : Gl X x) (hi : DE X ρ e Ti) (hd : (x == ("__debug__" : Str)) = false := by decide) (hs : PlainIx e := by exact fun _ _ => rfl) : DE X ρ (.Subscript (.Name x p) e pos) (dTab tab Ti) := by
  obtain ⟨a, hm, hv⟩ := c
  refine L2.PE.imp (pe_ix ix_kdict (pe_glob (v := .ref a) hg hm rfl hd) hi hs) fun σ H Q ⟨δ, G, R, ab, ds, t, k⟩ => ?_
  refine ⟨δ, G, _, ab, ds, t, fun d G1 v H1 q s r => ?_⟩
  unfold dTab at q
  split at q
  · rename_i z
    cases r
    obtain ⟨d, hd, q⟩ := q
    obtain ⟨v, h1, h2⟩ := hv z d hd
    exact ⟨a, z, v, rfl, rfl, h1, k _ _ _ _ q s (h2 _)⟩
  · exact q.elim
end
/-! ### facts of the head -/
def tupB (K : PySem.W.Frag) (x : Str) (vs : List V) : Bool := match K.lookup (He.ga K x) with
  | some ⟨.type c, _, .seq its _, _⟩ => decide (c = "tuple") && (decide (its.size ≤ 1000) && He.relAll vs its.toList)
  | _ => false
theorem tupB_ok {K : PySem.W.Frag} {x : Str} {vs : List V} (h : tupB K x vs = true) {ds : List D} (hd : ∀ H, DenL K H ds vs) (H : Hp) : Den K H (.tup ds) (.ref (He.ga K x)) := by
  unfold tupB at h
  cases q : K.lookup (He.ga K x) with
  | none => rw [q] at h; cases h
  | some o =>
    obtain ⟨oc, od, dt, osl⟩ := o
    rw [q] at h
    cases oc with
    | type c =>
      cases dt with
      | seq its n =>
        have h : (decide (c = "tuple") && (decide (its.size ≤ 1000) && He.relAll vs its.toList)) = true := h
        obtain ⟨h1, h2⟩ := (Bool.and_eq_true _ _).mp h
        obtain ⟨h3, h4⟩ := (Bool.and_eq_true _ _).mp h2
        have h1 := of_decide_eq_true h1
        have h3 := of_decide_eq_true h3
        subst h1
        exact .tup (.inr ⟨_, its, n, q, rfl, rfl, Nat.le_trans h3 (by rw [sizeLine_eq]; omega), He.relAll_ok h4⟩) (hd H)
      | _ => cases h
    | _ => cases dt <;> cases h
theorem glc_tup {K : PySem.W.Frag} {h : Heap} {mg : Str → Option Value} {x : Str} {vs : List V} {ds : List D} (X : K.In h) (G : h.Ns mainGlobals mg) (hg : (He.Fa.glo x).ok K = true) (ht : tupB K x vs = true) (hd : ∀ H, DenL K H ds vs) : GlC K mg x (.tup ds) :=
  ⟨.ref (He.ga K x), .ref (He.ga K x), He.glo_ok X G hg, rfl, tupB_ok ht hd⟩
theorem glc_str {K : PySem.W.Frag} {h : Heap} {mg : Str → Option Value} {x z : Str} (X : K.In h) (G : h.Ns mainGlobals mg) (hg : (He.Fa.str x z).ok K = true) (hz : z.length ≤ sizeLine) : GlC K mg x (.str z) := by
  obtain ⟨t, ht⟩ := He.str_ok X G hg
  exact ⟨.str z, _, ht, ⟨t, rfl⟩, fun H => .str z hz⟩
theorem glc_int {K : PySem.W.Frag} {h : Heap} {mg : Str → Option Value} {x : Str} {i : Int} (X : K.In h) (G : h.Ns mainGlobals mg) (hg : (He.Fa.int x i).ok K = true) : GlC K mg x (.int i) := by
  obtain ⟨t, ht⟩ := He.int_ok X G hg
  exact ⟨.int i, _, ht, ⟨t, rfl⟩, fun H => .int i⟩
theorem gltab_of {K : PySem.W.Frag} {w : World} {h : Heap} {mg : Str → Option Value} {x : Str} {kvs : List (Str × He.Dv)} {tab : List (Str × D)} (X : K.In h) (G : h.Ns mainGlobals mg) (hg : (He.Fa.glo x).ok K = true) (D0 : ∃ es n, L2.KDict K w (He.ga K x) es n) (vb : He.valsB K (He.ga K x) kvs = true)
    (hd : ∀ z d, (z, d) ∈ tab → ∃ dv, (z, dv) ∈ kvs ∧ ∀ H, Den K H d (dv.v K)) : GlTab K w mg x tab := by
  refine ⟨He.ga K x, He.glo_ok X G hg, fun z d hz => ?_⟩
  obtain ⟨dv, h1, h2⟩ := hd z d hz
  obtain ⟨u, h3, h4⟩ := He.valsB_ok vb h1
  obtain ⟨es, n, D1⟩ := D0
  exact ⟨dv.v K, ⟨es, n, u, D1.at_, D1.lit, h3, h4⟩, h2⟩
end DD

/-! D-layer 21: more operations at known values -/
namespace DD
open PySem PySem.Spec PyProof.Rows L2 SeqAt
section
variable {G : DG} {Q : DK} {a b : Addr} {xs ys : List D} {es : List (D × D)} {i j : Int} {x y d e : D} {s t : Str} {δ : DSt} {F : DG → Prop}
theorem rPut_dct (h : G a = some (.dct es)) : DD.rPut (.ref a) x y G F = ((keyOk x ∧ es.length < 16777216) ∧ F (gup G a (.dct (dputE x y es)))) := by
  show (match G a with | some (.lst ds) => _ | some (.dct es) => _ | _ => False) = _
  rw [h]
theorem rPut_lst (h : G a = some (.lst xs)) : DD.rPut (.ref a) (.int i) y G F = ob (ixN xs.length i) fun j => F (gup G a (.lst (xs.set j y))) := by
  show (match G a with | some (.lst ds) => _ | some (.dct es) => _ | _ => False) = _
  rw [h]
theorem rNotIn_dct (h : G a = some (.dct es)) : DD.rNotIn x (.ref a) G Q = (keyOk x ∧ Q (.bl (!(dgetE (keyD x) es).isSome)) G) := by
  show DD.rIn x (.ref a) G (fun z G' => match z with | .bl b => Q (.bl (!b)) G' | _ => False) = _
  rw [rIn_dct h]
theorem rDict_lst {prs : List (D × D)} (h : G a = some (.lst xs)) (hp : pairsD xs = some prs) : DD.rDict [.ref a] G Q = (((∀ p ∈ prs, keyOk p.1) ∧ xs.length < 16777216) ∧ ∀ p, G p = none → Q (.ref p) (gup G p (.dct (putAll prs [])))) := by
  show (match G a with | some (.lst xs) => ob (pairsD xs) fun prs => _ | _ => False) = _
  rw [h]
  show ob (pairsD xs) _ = _
  rw [hp]
  all_goals rfl
theorem rJoin_lst {zs : List Str} (h : G a = some (.lst (zs.map .str))) : DD.rJoin (.str s) [.ref a] G Q = (((zs.map (·.length)).sum + zs.length * s.length ≤ 16777216 ∧ (Txt.join s zs).length ≤ 16777216) ∧ Q (.str (Txt.join s zs)) G) := by
  show (match G a with | some (.lst xs) => ob (strsOf xs) fun ys => _ | _ => False) = _
  rw [h]
  have : ∀ l : List Str, strsOf (l.map .str) = some l := by
    intro l
    induction l with
    | nil => rfl
    | cons b l ih => simp [strsOf, ih]
  show ob (strsOf (zs.map .str)) _ = _
  rw [this]
  all_goals rfl
theorem idx_enc {s : Stp} : ∀ {l : List Stp}, (∃ t ∈ l, decide (t = s) = true) → idxP (toP (encS s)) (toPs (l.map encS)) = some (l.findIdx fun t => decide (t = s))
  | [], h => by obtain ⟨t, ht, _⟩ := h; cases ht
  | t :: l, h => by
    have e : eqP (toP (encS t)) (toP (encS s)) = decide (t = s) := eqD_encS
    show idxP (toP (encS s)) (toP (encS t) :: toPs (l.map encS)) = _
    unfold idxP
    rw [e, List.findIdx_cons]
    by_cases z : t = s
    · rw [decide_eq_true z]
      rfl
    · rw [decide_eq_false z]
      have h' : ∃ u ∈ l, decide (u = s) = true := by
        obtain ⟨u, hu, hs⟩ := h
        rcases List.mem_cons.mp hu with y | y
        · rw [y] at hs; exact absurd (of_decide_eq_true hs) z
        · exact ⟨u, y, hs⟩
      rw [idx_enc h']
      rfl
theorem rIndex_enc {s : Stp} {l : List Stp} (h : G a = some (.lst (l.map encS))) (hs : s ∈ l) : DD.rIndex (.ref a) [encS s] G Q = Q (.int ((l.findIdx fun t => decide (t = s) : Nat))) G := by
  show (match G a with | some (.lst xs) => ob (res G (encS s)) fun p => ob (ress G xs) fun qs => (dpP p ≤ 60 ∨ dpPs qs ≤ 60) ∧ ob (idxP p qs) fun j => Q (.int (j : Nat)) G | _ => False) = _
  rw [h]
  show (ob (res G (encS s)) fun p => ob (ress G (l.map encS)) fun qs => (dpP p ≤ 60 ∨ dpPs qs ≤ 60) ∧ ob (idxP p qs) fun j => Q (.int (j : Nat)) G) = _
  have hf : flats (l.map encS) = true := by
    clear hs h
    induction l with
    | nil => rfl
    | cons t l ih => exact ih
  rw [res_flat (d := encS s) rfl, ob_true, ress_flat hf, ob_true, idx_enc ⟨s, hs, decide_eq_true rfl⟩, ob_true]
  refine propext ⟨fun q => q.2, fun q => ⟨.inl ?_, q⟩⟩
  rw [dp_encS]
  omega
theorem rInt1_bl {p : Bool} : DD.rInt1 [.bl p] G Q = Q (.int (b2 p)) G := rfl
end
end DD

/-! D-layer 22: a list told apart; a def that tells some new object -/
namespace DD
open PySem PySem.Spec PyProof.Rows L2 SeqAt
section
variable {X : Cx} {ρ : Rg X.K X.w} {pos : Pos} {vs : List Nat}
/-- a, b = a list -/
def dgTupL (n : Nat) (gs : DTGs) : DTG := fun d δ G Q => match d with
  | .ref a => (match G a with
    | some (.lst ds) => ds.length = n ∧ gs ds δ G Q
    | _ => False)
  | _ => False
theorem dg_tupL {es : List Expr} {k : Nat} {gs : DTGs} {n : Nat} (hc : X.calm = true) (h : DGts X ρ vs es gs)
    (hn : (assignEach es X.env).length = n := by rfl) (hst : (assignEach es X.env).findIdx? (·.1) = none := by rfl) : DGt X ρ vs (.Tuple es k pos) (dgTupL n gs) := by
  refine L2.PG.imp (pg_lst hc h hn hst) fun v σ H Q ⟨d, δ, G, R, ab, ds, r, t, k⟩ => ?_
  unfold dgTupL at t
  split at t
  · rename_i a
    cases r
    split at t
    · rename_i ds' eg
      obtain ⟨us, hu, hl⟩ := ab.abs a _ eg
      refine ⟨a, us, rfl, .of hu, by rw [← hl.length]; exact t.1, ?_⟩
      exact ⟨_, δ, G, R, ab, ds, hl, t.2, k⟩
    · exact t.elim
  · exact t.elim
theorem tupL_app {a : Addr} {ds : List D} {n : Nat} {gs : DTGs} {δ : DSt} {G : DG} {Q : DSt → DG → Prop} (h : G a = some (.lst ds)) : dgTupL n gs (.ref a) δ G Q = (ds.length = n ∧ gs ds δ G Q) := by
  show (match G a with | some (.lst ds) => ds.length = n ∧ gs ds δ G Q | _ => False) = _
  rw [h]
end
/-- some new object, by what is told of the arguments -/
def spM {α : Type} (pre : α → List D → Prop) (Rl : α → O → Prop) : DSp := fun ds G R _ => ∃ a, pre a ds ∧ ∀ o, Rl a o → ∀ p, G p = none → R (.ref p) (gup G p o)
def spM0 {α : Type} (pre : α → List D → Prop) (Rl : α → O → Prop) : DSp := fun ds G R _ => ∃ a, pre a ds ∧ G = g0 ∧ R = fun d G' => ∃ p o, d = .ref p ∧ G' p = some o ∧ Rl a o
/-- some value -/
def spV {α : Type} (pre : α → List D → Prop) (Rl : α → D → Prop) : DSp := fun ds G R _ => ∃ a, pre a ds ∧ ∀ d, Rl a d → R d G
def spV0 {α : Type} (pre : α → List D → Prop) (Rl : α → D → Prop) : DSp := fun ds G R _ => ∃ a, pre a ds ∧ G = g0 ∧ R = fun d' _ => Rl a d'
section
variable {P : Program} {w : World} {K : PySem.W.Frag} {mg : Str → Option Value} {base : Heap} {x : Str} {st : Stmt} {N ps : List Str} {k : Nat} {α : Type} {f : Addr} {fd : FuncData}
theorem spM_of {CX : CXT} {pre : α → List D → Prop} {Rl : α → O → Prop} (F : FnOk P w K mg base CX k f fd ps (lsp K w (spM0 pre Rl))) : FnOk P w K mg base CX k f fd ps (lsp K w (spM pre Rl)) := by
  refine F.imp fun vs H Q E ⟨ds, G, R, RE, r, ab, ⟨a, h1, h2⟩, k1, k2⟩ => ?_
  refine ⟨ds, g0, fun d G' => ∃ p o, d = .ref p ∧ G' p = some o ∧ Rl a o, fun _ _ => False, r, .empty, ⟨a, h1, rfl, rfl⟩, fun d' G' v H' ⟨p, o, e1, e2, e3⟩ s rd => ?_, fun _ _ _ h => h.elim⟩
  subst e1
  obtain ⟨np, st⟩ := s.pureNew ab e2
  exact k1 _ _ _ _ (h2 o e3 p np) st rd
theorem spV_of {CX : CXT} {pre : α → List D → Prop} {Rl : α → D → Prop} (F : FnOk P w K mg base CX k f fd ps (lsp K w (spV0 pre Rl))) : FnOk P w K mg base CX k f fd ps (lsp K w (spV pre Rl)) := by
  refine F.imp fun vs H Q E ⟨ds, G, R, RE, r, ab, ⟨a, h1, h2⟩, k1, k2⟩ => ?_
  refine ⟨ds, g0, fun d' _ => Rl a d', fun _ _ => False, r, .empty, ⟨a, h1, rfl, rfl⟩, fun d' G' v H' e s rd => ?_, fun _ _ _ h => h.elim⟩
  exact k1 _ _ _ _ (h2 d' e) (s.pure ab) rd
theorem goodM {pre : α → List D → Prop} {Rl : α → O → Prop} (D0 : DefAt K mg x st) (S : FnScope N ps (defScope st)) (T : DTS)
    (hb : ∀ (kV doc pm : Value) (an : Option Addr) (cdv ct : Value) (us : List Value), us.length = ps.length → bindArgs (PySem.W.fnOf x x (defArgs st) (defBody st) (defScope st) .none kV doc pm an cdv ct) ⟨us, []⟩ = Pure.pure (ps.zip us))
    (len : ∀ a ds, pre a ds → ds.length = ps.length)
    (der : ∀ (f : Addr) (cdv : Value) (A : Around) (outer : List Env) (s : Shared) (H : Hp) (E : XK), Room k (A.deeper (envOfC x (defScope st) s.heap.objs.size f cdv)) →
      DSs (cxOf CX0 P w K mg base N x (defScope st) f cdv A outer s H E).nox (Rg.top K w) (defBody st) T)
    (pure : ∀ a ds, pre a ds → T { nx := fun _ _ => False, rt := fun d G' => ∃ p o, d = .ref p ∧ G' p = some o ∧ Rl a o } (dstart N ds) g0) : Good P w K mg base x ps (k + 1) (spM pre Rl) := by
  have F : Good P w K mg base x ps (k + 1) (spM0 pre Rl) := good_of D0 S T hb (fun ds G R RE ⟨a, h, _⟩ => len a ds h) der fun ds G R RE ⟨a, h, e1, e2⟩ => by
    subst e1 e2
    have hn : (fun (_ : DSt) (G' : DG) => ∃ p o, D.non = .ref p ∧ G' p = some o ∧ Rl a o) = fun _ _ => False := by
      funext _ _
      simp
    rw [hn]
    exact pure a ds h
  obtain ⟨f, fd, h1, h2, h3, h4⟩ := F
  exact ⟨f, fd, h1, h2, h3, spM_of h4⟩
theorem goodV {pre : α → List D → Prop} {Rl : α → D → Prop} (D0 : DefAt K mg x st) (S : FnScope N ps (defScope st)) (T : DTS)
    (hb : ∀ (kV doc pm : Value) (an : Option Addr) (cdv ct : Value) (us : List Value), us.length = ps.length → bindArgs (PySem.W.fnOf x x (defArgs st) (defBody st) (defScope st) .none kV doc pm an cdv ct) ⟨us, []⟩ = Pure.pure (ps.zip us))
    (len : ∀ a ds, pre a ds → ds.length = ps.length)
    (der : ∀ (f : Addr) (cdv : Value) (A : Around) (outer : List Env) (s : Shared) (H : Hp) (E : XK), Room k (A.deeper (envOfC x (defScope st) s.heap.objs.size f cdv)) →
      DSs (cxOf CX0 P w K mg base N x (defScope st) f cdv A outer s H E).nox (Rg.top K w) (defBody st) T)
    (pure : ∀ a ds, pre a ds → T { nx := fun _ _ => Rl a .non, rt := fun d' _ => Rl a d' } (dstart N ds) g0) : Good P w K mg base x ps (k + 1) (spV pre Rl) := by
  have F : Good P w K mg base x ps (k + 1) (spV0 pre Rl) := good_of D0 S T hb (fun ds G R RE ⟨a, h, _⟩ => len a ds h) der fun ds G R RE ⟨a, h, e1, e2⟩ => by
    subst e1 e2
    exact pure a ds h
  obtain ⟨f, fd, h1, h2, h3, h4⟩ := F
  exact ⟨f, fd, h1, h2, h3, spV_of h4⟩
end
/-! what stands in the heap -/
section
variable {G : DG} {a p : Addr} {o u : O}
theorem gk (h : G a = some o) (hp : G p = none) : gup G p u a = some o := by rw [gup_ne (fun z => by rw [z, hp] at h; cases h)]; exact h
theorem gw (h : G a = some o) (hp : a ≠ p) : gup G p u a = some o := by rw [gup_ne hp]; exact h
theorem gne (h : G a = some o) (hp : G p = none) : a ≠ p := fun z => by rw [z, hp] at h; cases h
end
end DD

/-! D-layer 23: zip of a list and a tuple; a def that reads objects and tells a value -/
namespace DD
open PySem PySem.Spec PyProof.Rows L2 SeqAt
/-- the list at a, the tuple at b -/
def ItzM (K : PySem.W.Frag) (a b : Addr) : It :=
  ⟨fun i H => ∃ (xs ys : List V) (x y : V), SqL K H a xs ∧ SqT K H b ys ∧ xs[i]? = some x ∧ ys[i]? = some y,
    fun i H v H' => ∃ T x y, v = .ref T ∧ H T = none ∧ H' = upd H T (.tup [x, y]) ∧ (∀ xs, SqL K H a xs → xs[i]? = some x) ∧ ∀ ys, SqT K H b ys → ys[i]? = some y,
    fun i H => ∃ xs ys : List V, SqL K H a xs ∧ SqT K H b ys ∧ (xs.length = i ∧ i ≤ ys.length ∨ ys.length = i ∧ i ≤ xs.length)⟩
theorem turn_zipM {P : Program} {w : World} {K : PySem.W.Frag} {elts : List Expr} {kk : Nat} {tpos : Pos} {a b z TI TO i1 i2 : Addr} (Z : ZipSep2 z TI TO i1 i2 [i1, a] [i2, b]) (n1 : a ≠ i1) (n2 : b ≠ i2) :
    Turn P w K (.Tuple elts kk tpos) (ItzM K a b) [z, TI, TO, i1, i2] z (fun i h => IsZip h z TI TO .none ∧ IsPair h TI (.ref i1) (.ref i2) ∧ (∃ x y, IsPair h TO x y) ∧ h.IsListIter i1 a i ∧ h.IsTupleIter i2 b i) where
  mem := by simp
  obj := fun i h st c hc => by
    obtain ⟨hz, hTI, ⟨x, y, hTO⟩, ⟨o1, e1, _, d1⟩, ⟨o2, e2, _, d2⟩⟩ := st
    have who : c = z ∨ c = TI ∨ c = TO ∨ c = i1 ∨ c = i2 := by simpa using hc
    rcases who with rfl | rfl | rfl | rfl | rfl
    · exact ⟨_, hz, fun v q => nomatch q⟩
    · exact ⟨_, hTI, fun v q => nomatch q⟩
    · exact ⟨_, hTO, fun v q => nomatch q⟩
    · exact ⟨o1, e1, fun v q => by rw [d1] at q; cases q⟩
    · exact ⟨o2, e2, fun v q => by rw [d2] at q; cases q⟩
  keep := fun i h h' st k => by
    obtain ⟨hz, hTI, ⟨x, y, hTO⟩, h1, h2⟩ := st
    refine ⟨k z (by simp) _ hz, k TI (by simp) _ hTI, ⟨x, y, k TO (by simp) _ hTO⟩, h1.at fun o q => ?_, h2.at fun o q => ?_⟩
    · exact k i1 (by simp) o q
    · exact k i2 (by simp) o q
  item := by
    intro X hP hw hK hc i pins s σ H E I hf st hg
    subst hP hw hK
    obtain ⟨hz, hTI, ⟨x0, y0, hTO⟩, h1, h2⟩ := st
    obtain ⟨xs, ys, x, y, hqx, hqy, hx, hy⟩ := hg
    obtain ⟨its, rv, p, _⟩ := I.list hqx
    obtain ⟨its2, rv2, p2, _⟩ := I.tuple hqy
    obtain ⟨u, hu, ru⟩ := rv.get hx
    obtain ⟨u2, hu2, ru2⟩ := rv2.get hy
    have zl : z < s.heap.objs.size := Heap.lt_size hz
    have nh : X.A.in1.handled = none := I.ok.hd hc
    have j1 : i < its.toArray.size := by
      have := (List.getElem?_eq_some_iff.mp hu).1
      simpa using this
    have j2 : i < its2.toArray.size := by
      have := (List.getElem?_eq_some_iff.mp hu2).1
      simpa using this
    refine wpAny_pyNext_zipD2_item Z (Draws.list nh i1 a n1 its.toArray) (Draws.tuple nh i2 b n2 its2.toArray) hz hTI hTO ⟨h1, p.isList⟩ ⟨h2, p2⟩ j1 j2 fun v1 v2 h' tk q1 q2 z' TO' s1 s2 hT hsz hk => ?_
    have ev1 : v1 = u := by
      have : its.toArray[i]? = some u := by simpa using hu
      rw [this] at q1
      exact (Option.some.inj q1).symm
    have ev2 : v2 = u2 := by
      have : its2.toArray[i]? = some u2 := by simpa using hu2
      rw [this] at q2
      exact (Option.some.inj q2).symm
    subst ev1 ev2
    refine ⟨_, rfl, wpAny_letOwnedTupleGo_zip (s := { s with heap := h', toks := tk }) z' fun h'' z'' sb => ?_⟩
    have hT2 : h''.get? s.heap.objs.size = some { cls := .type "tuple", data := .seq #[v1, v2] } := (sb.2 _ (Nat.ne_of_gt zl)).trans hT
    have new : ObjOk X.prog X.w (upd H s.heap.objs.size (.tup [x, y])) h'' s.heap.objs.size (.tup [x, y]) := ⟨by show 2 ≤ sizeLine; decide, [v1, v2], .cons ru (.cons ru2 .nil), ⟨_, hT2, rfl, _, rfl⟩⟩
    have I1 : Inv X pins σ (upd H s.heap.objs.size (.tup [x, y])) { s with heap := h'', toks := tk } :=
      I.turnedNew (t' := tk) (ch := [z, TI, TO, i1, i2]) (fun c o hb q => (sb.2 c (fun q' => hb (by simp [q']))).trans (hk c o (fun q' => hb (by simp [q'])) (fun q' => hb (by simp [q'])) (fun q' => hb (by simp [q'])) (fun q' => hb (by simp [q'])) q)) hf (Nat.le_refl _) new
    refine ⟨.ref s.heap.objs.size, _, I1, rfl, ⟨_, x, y, rfl, I.hok.fresh (Nat.le_refl _), rfl, fun l hl => by rw [I.list_inj hl hqx]; exact hx, fun l hl => by rw [I.tuple_inj hl hqy]; exact hy⟩, ⟨z'', ?_, ⟨v1, v2, ?_⟩, ?_, ?_⟩, fun c hcm => ?_⟩
    · exact (sb.2 _ Z.TIz).trans (hk _ _ Z.TIz Z.TITO Z.TIi1 Z.TIi2 hTI)
    · exact (sb.2 _ Z.TOz).trans TO'
    · exact s1.1.at fun o q => (sb.2 _ (Ne.symm Z.zi1)).trans q
    · exact s2.1.at fun o q => (sb.2 _ (Ne.symm Z.zi2)).trans q
    · have hlt : c < s.heap.objs.size := by
        have who : c = z ∨ c = TI ∨ c = TO ∨ c = i1 ∨ c = i2 := by simpa using hcm
        rcases who with rfl | rfl | rfl | rfl | rfl
        · exact zl
        · exact Heap.lt_size hTI
        · exact Heap.lt_size hTO
        · obtain ⟨_, e1, _⟩ := h1; exact Heap.lt_size e1
        · obtain ⟨_, e2, _⟩ := h2; exact Heap.lt_size e2
      rw [upd_ne (Nat.ne_of_lt hlt)]
      exact (hf c hcm).1
  done := by
    intro X hP hw hK hc i pins s σ H E I hf st hg
    subst hP hw hK
    obtain ⟨hz, hTI, ⟨x0, y0, hTO⟩, h1, h2⟩ := st
    obtain ⟨xs, ys, hqx, hqy, hend⟩ := hg
    obtain ⟨its, rv, p, _⟩ := I.list hqx
    obtain ⟨its2, rv2, p2, _⟩ := I.tuple hqy
    have l1 := rv.length
    have l2 := rv2.length
    have nh : X.A.in1.handled = none := I.ok.hd hc
    have z1 : its.toArray.size = xs.length := by simp [l1]
    have z2 : its2.toArray.size = ys.length := by simp [l2]
    exact wpAny_pyNext_zipD2_end Z (Draws.list nh i1 a n1 its.toArray) (Draws.tuple nh i2 b n2 its2.toArray) hz hTI hTO ⟨h1, p.isList⟩ ⟨h2, p2⟩ (by omega) (by omega) (by omega) fun h' tk hk => ⟨rfl, I.turnedL (t' := tk) (ch := [z, TI, TO, i1, i2]) (fun c o hb q =>
      hk c o (fun q' => hb (by simp [q'])) (fun q' => hb (by simp [q'])) (fun q' => hb (by simp [q'])) (fun q' => hb (by simp [q'])) q) hf⟩
  self := fun A i s Q E st h => wpAny_pyIter_zip st.1 h
def iZipM (K : PySem.W.Frag) (ta : L2.TA) : TI := fun σ H R => ta σ H fun vs H1 => ∃ a b xs ys, vs = [.ref a, .ref b] ∧ SqL K H1 a xs ∧ SqT K H1 b ys ∧ R (ItzM K a b) H1
theorem pi_zipM {X : Cx} {e e2 : Expr} {ta : L2.TA} {p pos tpos : Pos} {elts : List Expr} {kk : Nat} (hg : Gl X "zip") (hm : X.mg "zip" = none) (ha : PA X [e, e2] ta)
    (hs : starEach [e, e2] X.env = (false, eval e X.env) :: starEach [e2] X.env := by rfl) (hpl : (backTo pos (starEach [e2] X.env)).any (·.1) = false := by rfl) :
    PI X (.Tuple elts kk tpos) (.Call (.Name "zip" p) [e, e2] [] pos) (iZipM X.K ta) := by
  refine ⟨fun pins s σ H R I h => ?_⟩
  refine Call_ (ld_blt I hg hm PyProof.Rows.boot_zip (PyProof.Rows.callWith_type1 (thn (ha.run pos pins s σ H _ I h) fun us s1 ⟨vs, H1, I1, r1, q1⟩ => ?_) hs hpl))
  obtain ⟨a, b, xs, ys, ex, hqx, hqy, q⟩ := q1
  subst ex
  cases r1 with
  | cons r rr =>
    cases rr with
    | cons r' rr =>
      cases rr
      cases r
      cases r'
      have new5 : ∀ c, c ∈ [s1.heap.objs.size + 4, s1.heap.objs.size + 2, s1.heap.objs.size + 3, s1.heap.objs.size, s1.heap.objs.size + 1] → FpOk X pins H1 c := fun c hcm => by
        have who : c = s1.heap.objs.size + 4 ∨ c = s1.heap.objs.size + 2 ∨ c = s1.heap.objs.size + 3 ∨ c = s1.heap.objs.size ∨ c = s1.heap.objs.size + 1 := by simpa using hcm
        have hle : s1.heap.objs.size ≤ c := by
          rcases who with z | z | z | z | z <;> rw [z]
          · exact Nat.le_add_right _ _
          · exact Nat.le_add_right _ _
          · exact Nat.le_add_right _ _
          · exact Nat.le_refl _
          · exact Nat.le_add_right _ _
        exact I1.fpOk hle (I1.hok.fresh hle)
      obtain ⟨its, rv, p1, _⟩ := I1.list hqx
      obtain ⟨its2, rv2, p2, _⟩ := I1.tuple hqy
      obtain ⟨o2, ho2, _⟩ := id p2
      have la : a < s1.heap.objs.size := p1.lt
      have lb : b < s1.heap.objs.size := Heap.lt_size ho2
      refine zip_begins2 (begins_list a its.toArray) (begins_tuple b its2.toArray) p1.isList p2 fun h' hz hTI hTO g1 g2 hsz hk => wpAny_pyIter_zip hz ?_
      have I2 : Inv X pins σ H1 { s1 with heap := h' } := I1.kept (t' := s1.toks) hk
      have sep : ZipSep2 (s1.heap.objs.size + 4) (s1.heap.objs.size + 2) (s1.heap.objs.size + 3) s1.heap.objs.size (s1.heap.objs.size + 1) (s1.heap.objs.size :: [a]) ((s1.heap.objs.size + 1) :: [b]) :=
        zip_sep2 (fun c hc => by rw [List.mem_singleton.mp hc]; exact la) (fun c hc => by rw [List.mem_singleton.mp hc]; exact lb)
      exact ⟨s1.heap.objs.size + 4, [s1.heap.objs.size + 4, s1.heap.objs.size + 2, s1.heap.objs.size + 3, s1.heap.objs.size, s1.heap.objs.size + 1], _, _, H1, rfl, I2,
        turn_zipM sep (Nat.ne_of_lt la) (Nat.ne_of_lt (Nat.lt_succ_of_lt lb)), ⟨hz, hTI, ⟨_, _, hTO⟩, ⟨_, g1, rfl, rfl⟩, ⟨_, g2, rfl, rfl⟩⟩, new5, q⟩
def dZipM (TB : DTA) : DTI := fun δ G R => TB δ G fun ds G1 => match ds with
  | [.ref a, .tup ys] => (match G1 a with
    | some (.lst xs) => R (zipD xs ys) (fun G' => G' a = some (.lst xs)) G1
    | _ => False)
  | _ => False
section
variable {X : Cx} {ρ : Rg X.K X.w} {a b c e : Expr} {pos : Pos} {TB : DTA}
theorem di_zipM {p tpos : Pos} {elts : List Expr} {kk : Nat} (hg : Gl X "zip") (hm : X.mg "zip" = none) (ha : DA X ρ [a, b] TB)
    (hs : starEach [a, b] X.env = (false, eval a X.env) :: starEach [b] X.env := by rfl) (hpl : (backTo pos (starEach [b] X.env)).any (·.1) = false := by rfl) :
    DI X ρ (.Tuple elts kk tpos) (.Call (.Name "zip" p) [a, b] [] pos) (dZipM TB) := by
  refine L2.PI.imp (pi_zipM hg hm (L2.PA.held ha) hs hpl) fun σ H R' ⟨δ, G, R, ab, ds, t, k⟩ => ?_
  refine ⟨δ, G, _, ab, ds, t, fun ds' G1 us H1 q s r n s' pins I => ?_⟩
  have hz : sizeLine = 16777216 := sizeLine_eq
  unfold dZipM at *
  split at q
  · rename_i a ys
    obtain ⟨v, u, rfl, d1, d2⟩ := r.inv2
    cases d1
    cases d2 with
    | tup h2 l2 =>
    rename_i b us
    split at q
    · rename_i xs e1
      obtain ⟨vs, h1, l1⟩ := s.abs a _ e1
      obtain ⟨_, _, _, z1⟩ := I.list (.of h1)
      refine ⟨a, b, vs, us, rfl, .of h1, h2, k _ _ G1 _ H1 q s ⟨fun H => ∃ vs, SqL X.K H a vs ∧ SqT X.K H b us ∧ DenL X.K H xs vs, fun i H v H' => ∃ T x y vs, v = .ref T ∧ H T = none ∧ H' = upd H T (.tup [x, y]) ∧ DenL X.K H xs vs ∧ vs[i]? = some x ∧ us[i]? = some y, ⟨fun i H hi g => ?_, fun H g => ?_, fun i H x H' hi g y => ?_⟩, ?_, fun H G kp A c => ?_, fun i H x H' G kp A _ g hi y => ?_⟩⟩
      · obtain ⟨vs, g1, g2, m1⟩ := g
        rw [zipD_len] at hi
        have l1' := m1.length
        have l2' := l2.length
        exact ⟨vs, us, vs[i], us[i], g1, g2, List.getElem?_eq_getElem (by omega), List.getElem?_eq_getElem (by omega)⟩
      · obtain ⟨vs, g1, g2, m1⟩ := g
        have l1' := m1.length
        have l2' := l2.length
        refine ⟨vs, us, g1, g2, ?_⟩
        rw [zipD_len]
        omega
      · obtain ⟨vs, g1, g2, m1⟩ := g
        obtain ⟨T, x', y', f1, f2, f3, f4, f5⟩ := y
        exact ⟨T, x', y', vs, f1, f2, f3, m1, f4 _ g1, f5 _ g2⟩
      · rw [zipD_len]
        have := l1.length
        omega
      · obtain ⟨ws, hw, m1⟩ := A a _ c
        exact ⟨ws, .of hw, kp.tup _ _ h2, m1⟩
      · obtain ⟨T, x', y', vs, rfl, hT, rfl, m1, f4, f5⟩ := y
        exact zip_item A m1 (l2.mono kp) f4 f5 hT
    · exact q.elim
  · exact q.elim
end
theorem zipM_app {TB : DTA} {δ : DSt} {G : DG} {R : List D → (DG → Prop) → DG → Prop} : dZipM TB δ G R = TB δ G fun ds G1 => match ds with
  | [.ref a, .tup ys] => (match G1 a with
    | some (.lst xs) => R (zipD xs ys) (fun G' => G' a = some (.lst xs)) G1
    | _ => False)
  | _ => False := rfl
/-! ### a value, with the objects as they stand -/
def spF (Rl : List D → DG → D → Prop) : DSp := fun ds G R _ => ∃ d, Rl ds G d ∧ R d G
def spF0 (Rl : List D → DG → D → Prop) : DSp := fun ds G R _ => ∃ d, Rl ds G d ∧ R = fun d' G' => d' = d ∧ Sub G G'
theorem Sub.refl {G : DG} : Sub G G := fun _ _ h => h
theorem Sub.trans {G G1 G2 : DG} (a : Sub G G1) (b : Sub G1 G2) : Sub G G2 := fun x o h => b x o (a x o h)
theorem Sub.new {G G1 : DG} {p : Addr} {u : O} (a : Sub G G1) (hp : G1 p = none) : Sub G (gup G1 p u) := fun x o h => gk (a x o h) hp
theorem Sub.put {G G1 : DG} {p : Addr} {u : O} (a : Sub G G1) (hp : G p = none) : Sub G (gup G1 p u) := fun x o h => gw (a x o h) (gne h hp)
theorem Sub.no {G G1 : DG} {p : Addr} (a : Sub G G1) (h : G1 p = none) : G p = none := by
  cases q : G p with
  | none => rfl
  | some o => rw [a p o q] at h; cases h
section
variable {P : Program} {w : World} {K : PySem.W.Frag} {mg : Str → Option Value} {base : Heap} {x : Str} {st : Stmt} {N ps : List Str} {k : Nat} {f : Addr} {fd : FuncData}
theorem spF_of {CX : CXT} {Rl : List D → DG → D → Prop} (F : FnOk P w K mg base CX k f fd ps (lsp K w (spF0 Rl))) : FnOk P w K mg base CX k f fd ps (lsp K w (spF Rl)) := by
  refine F.imp fun vs H Q E ⟨ds, G, R, RE, r, ab, ⟨d, h1, h2⟩, k1, k2⟩ => ?_
  refine ⟨ds, G, fun d' G' => d' = d ∧ Sub G G', fun _ _ => False, r, ab, ⟨d, h1, rfl⟩, fun d' G' v H' e s rd => ?_, fun _ _ _ h => h.elim⟩
  rw [e.1] at rd
  exact k1 _ _ _ _ h2 (s.forget e.2) rd
theorem goodF {Rl : List D → DG → D → Prop} (D0 : DefAt K mg x st) (S : FnScope N ps (defScope st)) (T : DTS)
    (hb : ∀ (kV doc pm : Value) (an : Option Addr) (cdv ct : Value) (us : List Value), us.length = ps.length → bindArgs (PySem.W.fnOf x x (defArgs st) (defBody st) (defScope st) .none kV doc pm an cdv ct) ⟨us, []⟩ = Pure.pure (ps.zip us))
    (len : ∀ ds G d, Rl ds G d → ds.length = ps.length)
    (der : ∀ (f : Addr) (cdv : Value) (A : Around) (outer : List Env) (s : Shared) (H : Hp) (E : XK), Room k (A.deeper (envOfC x (defScope st) s.heap.objs.size f cdv)) →
      DSs (cxOf CX0 P w K mg base N x (defScope st) f cdv A outer s H E).nox (Rg.top K w) (defBody st) T)
    (pure : ∀ ds G d, Rl ds G d → T { nx := fun _ G' => .non = d ∧ Sub G G', rt := fun d' G' => d' = d ∧ Sub G G' } (dstart N ds) G) : Good P w K mg base x ps (k + 1) (spF Rl) := by
  have F : Good P w K mg base x ps (k + 1) (spF0 Rl) := good_of D0 S T hb (fun ds G R RE ⟨d, h, _⟩ => len ds G d h) der fun ds G R RE ⟨d, h, e⟩ => by
    subst e
    exact pure ds G d h
  obtain ⟨f, fd, h1, h2, h3, h4⟩ := F
  exact ⟨f, fd, h1, h2, h3, spF_of h4⟩
end
end DD

/-! D-layer 24: a dict written out, its keys texts -/
namespace DD
open PySem PySem.Spec PyProof.Rows L2 SeqAt
section
variable {X : Cx} {ρ : Rg X.K X.w}
/-- pairs of a text and a value, one behind the other -/
def DPr (X : Cx) (ρ : Rg X.K X.w) (keys : List (Option Expr)) (vals : List Expr) (ks : List Str) (T : DTA) : Prop :=
  ∀ (pos : Pos) (pins : List (Addr × Obj)) (s : Shared) (σ : L2.St) (H : Hp) (δ : DSt) (G : DG) (R : List D → DG → Prop), Inv X pins σ H s → Ab ρ H G → DenS X.K H δ σ → T δ G R →
    wpAny (model X.prog X.w) X.A (PySem.evalPairs (pairTrees keys vals X.env pos)) (fun kvs s' => ∃ ds G' H' ws, R ds G' ∧ Step X.K X.w H G H' G' ∧ Inv X pins σ H' s' ∧ DenL X.K H' ds ws ∧ Vals ws (kvs.map (·.2)) ∧ Vals (ks.map V.str) (kvs.map (·.1))) X.xe s
theorem dp_nil : DPr X ρ [] [] [] dNil := fun pos pins s σ H δ G R I ab ds t => evalPairs_nil ⟨[], G, H, [], t, ab.same, I, .nil, .nil, .nil⟩
theorem dp_cons {x : Str} {j : Nat} {kp : Pos} {e : Expr} {keys : List (Option Expr)} {vals : List Expr} {ks : List Str} {Te : DTE} {T : DTA} (he : DE X ρ e Te) (hr : DPr X ρ keys vals ks T) :
    DPr X ρ (some (.Constant (.str x) j kp) :: keys) (e :: vals) (x :: ks) (dCons Te T) := by
  intro pos pins s σ H δ G R I ab ds t
  show wpAny _ _ (PySem.evalPairs ((eval (.Constant (.str x) j kp) X.env, do let x ← eval e X.env; standAt pos; pure x) :: pairTrees keys vals X.env pos)) _ _ _
  refine evalPairs_cons ?_
  refine thn ((pe_str (X := X)).run pins s σ H (fun v H' => v = .str x ∧ H' = H) I ⟨rfl, rfl⟩) fun ku s1 ⟨v, H1, I1, rk, ev, eH⟩ => ?_
  subst ev eH
  refine wpAny_bind (thn (he.run pins s1 σ H1 (fun v H' => ∃ d G', (T δ G' fun ds G2 => R (d :: ds) G2) ∧ Step X.K X.w H1 G H' G' ∧ Den X.K H' d v) I1 ⟨δ, G, _, ab, ds, t, fun d G' v H' q s' r' => ⟨d, G', q, s', r'⟩⟩) fun u s2 ⟨v, H2, I2, rv, d, G2, q, st, dv⟩ => ?_)
  refine wpAny_bind (wpAny_standAt (wpAny_pure ?_))
  refine thn (hr pos pins s2 σ H2 δ G2 _ I2 (ab.step st) (ds.mono (ab.kp st)) q) fun kvs s3 ⟨ds', G3, H3, ws, q3, st3, I3, dl, vl, kl⟩ => ?_
  exact ⟨d :: ds', G3, H3, v :: ws, q3, st.trans st3, I3, .cons (dv.mono ((ab.step st).kp st3)) dl, .cons rv vl, .cons rk kl⟩
def kvL (ks : List Str) (ds : List D) : List (D × D) := (ks.zip ds).map fun q => (D.str q.1, q.2)
def dDct (ks : List Str) (TA : DTA) : DTE := fun δ G Q => ∀ p, G p = none → TA δ (gup G p (.dct [])) fun ds G1 => ds.length = ks.length ∧ G1 p = some (.dct []) ∧ Q (.ref p) (gup G1 p (.dct (putAll (kvL ks ds) [])))
theorem store_all (hu : X.A.units + 64 < cLine) {pins : List (Addr × Obj)} {σ : L2.St} {p : Addr} : ∀ (kvs : List (Value × Value)) (ks : List Str) (ds : List D) (ws : List V) (es : List (D × D)) (H : Hp) (G : DG) (s : Shared) (E : Value → Shared → Prop),
    Inv X pins σ H s → AbsG X.K X.w H G → G p = some (.dct es) → DenL X.K H ds ws → Vals ws (kvs.map (·.2)) → Vals (ks.map V.str) (kvs.map (·.1)) → (∀ x ∈ ks, x.length ≤ sizeLine) → es.length + kvs.length ≤ 16777216 →
    wpAny (model X.prog X.w) X.A (storeAll p kvs) (fun _ s' => ∃ H', Inv X pins σ H' s' ∧ Step X.K X.w H G H' (gup G p (.dct (putAll (kvL ks ds) es)))) E s
  | [], ks, ds, ws, es, H, G, s, E, I, A, eg, dl, vl, kl, hk, hz => by
    have e1 : ks = [] := by
      cases ks with
      | nil => rfl
      | cons k ks => cases kl
    subst e1
    have eG : gup G p (.dct (putAll (kvL [] ds) es)) = G := by
      funext a
      by_cases z : a = p
      · rw [z, gup_same, eg]; rfl
      · rw [gup_ne z]
    rw [eG]
    exact wpAny_pure ⟨H, I, .refl A⟩
  | (ku, vu) :: kvs, ks, ds, ws, es, H, G, s, E, I, A, eg, dl, vl, kl, hk, hz => by
    cases ks with
    | nil => cases kl
    | cons k ks =>
    cases ws with
    | nil => cases vl
    | cons v ws =>
    cases dl with
    | cons dv dl =>
    rename_i d ds
    cases vl with
    | cons rv vl =>
    cases kl with
    | cons rk kl =>
    have hsz : sizeLine = 16777216 := sizeLine_eq
    obtain ⟨raw, hr, P, D0, ns, nd⟩ := dat_of I A eg
    have okk : keyOk (.str k) := ⟨rfl, by show (NestedKey.text k).depth ≤ 8; simp [NestedKey.depth]⟩
    have dk : Den X.K H (.str k) (.str k) := .str k (hk k List.mem_cons_self)
    have pr := put_raw P okk ⟨_, rk, dk⟩ ⟨v, rv, dv⟩
    rw [List.length_cons] at hz
    have rest : ∀ (raw' : List DictEntry) (s' : Shared), Paired (EntR X.K X.w H) (dputE (.str k) d es) raw' → Inv X pins σ (upd H p (dictO p raw')) s' →
        wpAny (model X.prog X.w) X.A (storeAll p kvs) (fun _ s' => ∃ H', Inv X pins σ H' s' ∧ Step X.K X.w H G H' (gup G p (.dct (putAll (kvL (k :: ks) (d :: ds)) es)))) E s' := by
      intro raw' s' P' I'
      have st := step_dict A eg ns (nodup_put nd) P'
      have h2 := len_put (k := .str k) (v := d) (es := es)
      refine thn (store_all hu kvs ks ds ws (dputE (.str k) d es) (upd H p (dictO p raw')) (gup G p (.dct (dputE (.str k) d es))) s' E I' st.abs gup_same (dl.mono (st.kp A)) vl kl (fun x hx => hk x (List.mem_cons_of_mem _ hx)) (by omega)) fun _ s2 ⟨H2, I2, st2⟩ => ?_
      rw [gup_gup] at st2
      exact ⟨H2, I2, st.trans st2⟩
    show wpAny _ _ (forIn ((ku, vu) :: kvs) PUnit.unit _) _ _ _
    rw [List.forIn_cons]
    refine wpAny_bind (wpAny_bind (dSet_n (A := X.A) (by omega) (Den.nested I _ dk rk okk.1) okk.2 D0 (by rw [len_raw P]; omega) (fun hno h' a' b => wpAny_pure ?_) fun j hj h' a' b => wpAny_pure ?_))
    · exact rest _ _ (pr.1 hno) (dict_write I hr b a')
    · exact rest _ _ (pr.2 j nd hj) (dict_write I hr b a')
theorem de_dct {keys : List (Option Expr)} {vals : List Expr} {ks : List Str} {TA : DTA} {pos : Pos} (hu : X.A.units + 64 < cLine) (hp : DPr X ρ keys vals ks TA) (hall : keys.all (·.isSome) = true := by rfl) (hl : keys.length = vals.length := by rfl) (h0 : keys ≠ [] := by exact List.cons_ne_nil _ _)
    (hlen : keys.length ≤ 15 := by decide) (hks : ∀ x ∈ ks, x.length ≤ 1000 := by decide +kernel) (hkl : ks.length ≤ 15 := by decide) : DE X ρ (.Dict keys vals pos) (dDct ks TA) := by
  have hsz : sizeLine = 16777216 := sizeLine_eq
  refine ⟨fun pins s σ H Q I ⟨δ, G, R, ab, ds, t, k⟩ => ?_⟩
  refine wpAny_Dict_any hall hl h0 hlen ?_
  have nH := I.hok.fresh (Nat.le_refl s.heap.objs.size)
  have hns : (s.heap.objs.size == sysModules) = false := beq_eq_false_iff_ne.mpr (Ne.symm (Nat.ne_of_lt I.big))
  have I1 : Inv X pins σ (upd H s.heap.objs.size (dictO s.heap.objs.size [])) { s with heap := s.heap.push { cls := .type "dict", data := .dict #[] } } :=
    I.laid (t' := s.toks) (fun _ _ q => Heap.get?_push_of_some _ q) (Nat.le_refl _) (ext_ok ⟨_, #[], 0, Heap.get?_push_size _ rfl, ⟨rfl, rfl, rfl⟩, rfl, rfl⟩)
  have st1 : Step X.K X.w H G (upd H s.heap.objs.size (dictO s.heap.objs.size [])) (gup G s.heap.objs.size (.dct [])) := Step.alloc (o := .dct []) ab.1 nH ⟨hns, List.nodup_nil, [], upd_same, .nil⟩
  refine thn (hp pos pins _ σ _ δ _ _ I1 (ab.step st1) (ds.mono (ab.kp st1)) (t _ (ab.1.none nH))) fun kvs s2 ⟨ds', G2, H2, ws, ⟨hdl, hG2, q⟩, st2, I2, dl, vl, kl⟩ => ?_
  have l1 : kvs.length = ks.length := by
    have := kl.length
    rw [List.length_map, List.length_map] at this
    exact this.symm
  refine thn (store_all hu kvs ks ds' ws [] H2 G2 s2 X.xe I2 st2.abs hG2 dl vl kl (fun x hx => by rw [hsz]; exact Nat.le_trans (hks x hx) (by decide)) (by rw [l1, List.length_nil]; omega)) fun _ s3 ⟨H3, I3, st3⟩ => ?_
  exact ⟨.ref s.heap.objs.size, H3, I3, rfl, k _ _ _ _ q ((st1.trans st2).trans st3) (.ref _)⟩
end
/-! upper -/
def rUpper : DRM := fun d ds G Q => match d, ds with
  | .str x, [] => x.length ≤ 1000000 ∧ Q (.str (Txt.upper x)) G
  | _, _ => False
theorem mt_upperD {X : Cx} : MtD X "str.upper" rUpper := by
  intro pins s σ H x xs v us Q I rx rs ⟨d, ds, G, R, A, r1, r2, q, k⟩
  unfold rUpper at q
  split at q
  · rename_i z
    cases r1
    rename_i hx
    cases r2
    refine mt_upper (X := X) pins s σ H _ _ v us Q I rx rs ⟨z, rfl, rfl, by omega, ?_⟩
    have h3 := len_upper z
    have hsz : sizeLine = 16777216 := sizeLine_eq
    exact k _ _ _ _ q.2 (.refl A) (.str _ (by omega))
  · exact q.elim
end DD

/-! Mathematics 1: deeds, and the order of letters -/
namespace M
open PySem DD
inductive Val | b (x : Bool) | n | t (x : Str)
  deriving DecidableEq
inductive Deed
  | write (s : Stp) (a : Option Stp) (c : Nat)
  | cut (s g : Stp)
  | mark (s : Stp) (bold : Bool) (f : Stp) (e : Option Stp) (v : Val)
  | sw (on : Bool) (s g : Stp)
def Deed.st : Deed → Stp
  | .write s _ _ => s | .cut s _ => s | .mark s _ _ _ _ => s | .sw _ s _ => s
def encV : Val → D
  | .b x => .bl x | .n => .non | .t x => .str x
def encD : Deed → D
  | .write s a c => .tup [.str "write", encS s, encO a, .str ⟨#[c]⟩]
  | .cut s g => .tup [.str "cut", encS s, encS g]
  | .mark s b f e v => .tup [.str "mark", encS s, .str (if b = true then "bold" else "link"), encS f, encO e, encV v]
  | .sw on s g => .tup [.str (if on = true then "on" else "off"), encS s, encS g]
def Deed.word : Deed → Str
  | .write _ _ _ => "write" | .cut _ _ => "cut" | .mark _ _ _ _ _ => "mark" | .sw on _ _ => if on = true then "on" else "off"
def Deed.isW : Deed → Option Stp
  | .write s _ _ => some s
  | _ => none
def Deed.isO : Deed → Option Stp
  | .cut s _ => some s
  | .mark s _ _ _ _ => some s
  | _ => none
/-- the stamps of the letters; of cuts and marks -/
def lets (L : List Deed) : List Stp := L.filterMap Deed.isW
def oths (L : List Deed) : List Stp := L.filterMap Deed.isO
theorem lets_snoc (L : List Deed) (d : Deed) : lets (L ++ [d]) = lets L ++ (match d.isW with | some s => [s] | none => []) := by
  unfold lets
  rw [List.filterMap_append]
  cases h : d.isW <;> simp [h]
theorem oths_snoc (L : List Deed) (d : Deed) : oths (L ++ [d]) = oths L ++ (match d.isO with | some s => [s] | none => []) := by
  unfold oths
  rw [List.filterMap_append]
  cases h : d.isO <;> simp [h]
/-- a deed that may come behind L -/
def Fit (L : List Deed) : Deed → Prop
  | .write _ a _ => ∀ s, a = some s → s ∈ lets L
  | .cut _ g => g ∈ lets L
  | .mark _ b f e v => f ∈ lets L ∧ (∀ s, e = some s → s ∈ lets L) ∧ (e = none → b = true) ∧ (match v with | .b _ => b = true | .n => b = false | .t x => b = false ∧ 1 ≤ x.length ∧ x.length ≤ 8)
  | .sw _ _ g => g ∈ lets L ∨ g ∈ oths L
inductive Wf : List Deed → Prop
  | nil : Wf []
  | snoc {L : List Deed} {d : Deed} : Wf L → Fit L d → (∀ e ∈ L, ltS e.st d.st = true) → Wf (L ++ [d])
theorem Wf.sorted {L : List Deed} (h : Wf L) : L.Pairwise fun a b => ltS a.st b.st = true := by
  induction h with
  | nil => exact .nil
  | snoc h f l ih =>
    rw [List.pairwise_append]
    exact ⟨ih, List.pairwise_singleton _ _, fun a ha b hb => by rw [List.mem_singleton.mp hb]; exact l a ha⟩
theorem mem_lets {L : List Deed} {s : Stp} (h : s ∈ lets L) : ∃ d ∈ L, d.st = s := by
  obtain ⟨d, hd, e⟩ := List.mem_filterMap.mp h
  refine ⟨d, hd, ?_⟩
  cases d <;> simp [Deed.isW] at e
  exact e
theorem mem_oths {L : List Deed} {s : Stp} (h : s ∈ oths L) : ∃ d ∈ L, d.st = s := by
  obtain ⟨d, hd, e⟩ := List.mem_filterMap.mp h
  refine ⟨d, hd, ?_⟩
  cases d <;> simp [Deed.isO] at e <;> exact e
theorem ltS_irr (s : Stp) : ltS s s = false := by
  cases h : ltS s s with
  | false => rfl
  | true => rw [ltS_asym h] at h; cases h
theorem new_notin {L : List Deed} {d : Deed} (l : ∀ e ∈ L, ltS e.st d.st = true) : d.st ∉ lets L := fun h => by
  obtain ⟨e, he, q⟩ := mem_lets h
  have := l e he
  rw [q, ltS_irr] at this
  cases this
theorem Wf.lets_nodup {L : List Deed} (h : Wf L) : (lets L).Nodup := by
  induction h with
  | nil => exact .nil
  | @snoc L d h f l ih =>
    rw [lets_snoc]
    cases e : d.isW with
    | none => simpa using ih
    | some s =>
      have es : d.st = s := by cases d <;> simp [Deed.isW] at e; exact e
      show (lets L ++ [s]).Nodup
      rw [List.nodup_append]
      refine ⟨ih, by simp, fun a ha b hb z => ?_⟩
      rw [List.mem_singleton.mp hb] at z
      exact new_notin l (by rw [es, ← z]; exact ha)

/-! ### the order of letters -/
def kidOf (a : Option Stp) : Deed → Option Stp
  | .write s b _ => if b = a then some s else none
  | _ => none
def kids (L : List Deed) (a : Option Stp) : List Stp := L.filterMap (kidOf a)
theorem kids_snoc (L : List Deed) (d : Deed) (a : Option Stp) : kids (L ++ [d]) a = kids L a ++ (match kidOf a d with | some s => [s] | none => []) := by
  unfold kids
  rw [List.filterMap_append]
  cases h : kidOf a d <;> simp [h]
theorem mem_kids {L : List Deed} {a : Option Stp} {s : Stp} (h : s ∈ kids L a) : ∃ c, Deed.write s a c ∈ L := by
  obtain ⟨d, hd, e⟩ := List.mem_filterMap.mp h
  cases d with
  | write s' b c =>
    simp only [kidOf] at e
    split at e
    · rename_i z
      cases e
      subst z
      exact ⟨c, hd⟩
    · cases e
  | _ => cases e
theorem kids_lets {L : List Deed} {a : Option Stp} {s : Stp} (h : s ∈ kids L a) : s ∈ lets L := by
  obtain ⟨c, hc⟩ := mem_kids h
  exact List.mem_filterMap.mpr ⟨_, hc, rfl⟩
/-! x's subtree, by its kids, the last one first -/
mutual
inductive Pre (L : List Deed) : Nat → Option Stp → List Stp → Prop
  | mk {n : Nat} {x : Option Stp} {l : List Stp} : PreL L n (kids L x).reverse l → Pre L (n + 1) x l
inductive PreL (L : List Deed) : Nat → List Stp → List Stp → Prop
  | nil {n : Nat} : PreL L n [] []
  | cons {n : Nat} {s : Stp} {l ks r : List Stp} : Pre L n (some s) l → PreL L n ks r → PreL L n (s :: ks) (s :: (l ++ r))
end
def insT (a : Option Stp) (s : Stp) (l : List Stp) : List Stp := l.flatMap fun t => if some t = a then [t, s] else [t]
def insA (a : Option Stp) (s : Stp) (x : Option Stp) (l : List Stp) : List Stp := (if x = a then [s] else []) ++ insT a s l
theorem pre_leaf {L : List Deed} {n : Nat} {x : Option Stp} (h : kids L x = []) : Pre L (n + 1) x [] := .mk (by rw [h]; exact .nil)
mutual
theorem Pre.up {L : List Deed} : ∀ {n : Nat} {x : Option Stp} {l : List Stp}, Pre L n x l → Pre L (n + 1) x l
  | _, _, _, .mk h => .mk (PreL.up h)
theorem PreL.up {L : List Deed} : ∀ {n : Nat} {x : List Stp} {l : List Stp}, PreL L n x l → PreL L (n + 1) x l
  | _, _, _, .nil => .nil
  | _, _, _, .cons a t => .cons (Pre.up a) (PreL.up t)
end
mutual
/-- a new letter, greater than all, right behind its place -/
theorem pre_write {L : List Deed} {s : Stp} {a : Option Stp} {c : Nat} (hk : kids (L ++ [.write s a c]) (some s) = []) :
    ∀ {n : Nat} {x : Option Stp} {l : List Stp}, Pre L n x l → Pre (L ++ [.write s a c]) (n + 1) x (insA a s x l)
  | n + 1, x, l, .mk h => by
    have ek : (kids (L ++ [.write s a c]) x).reverse = (if x = a then [s] else []) ++ (kids L x).reverse := by
      rw [kids_snoc, List.reverse_append]
      simp only [kidOf]
      by_cases z : x = a
      · rw [if_pos z, if_pos z.symm]
        rfl
      · rw [if_neg z, if_neg (fun y => z y.symm)]
        rfl
    refine .mk ?_
    rw [ek]
    unfold insA
    by_cases z : x = a
    · rw [if_pos z]
      exact .cons (l := []) (pre_leaf hk) (preL_write hk h)
    · rw [if_neg z]
      exact preL_write hk h
theorem preL_write {L : List Deed} {s : Stp} {a : Option Stp} {c : Nat} (hk : kids (L ++ [.write s a c]) (some s) = []) :
    ∀ {n : Nat} {ks : List Stp} {l : List Stp}, PreL L n ks l → PreL (L ++ [.write s a c]) (n + 1) ks (insT a s l)
  | _, _, _, .nil => .nil
  | n, t :: ks, _, .cons (l := l) (r := r) h1 h2 => by
    have e : insT a s (t :: (l ++ r)) = t :: (insA a s (some t) l ++ insT a s r) := by
      unfold insA insT
      rw [List.flatMap_cons, List.flatMap_append]
      by_cases z : some t = a
      · rw [if_pos z, if_pos z]
        simp
      · rw [if_neg z, if_neg z]
        simp
    rw [e]
    exact .cons (pre_write hk h1) (preL_write hk h2)
end
mutual
/-- other deeds change nothing -/
theorem pre_other {L : List Deed} {d : Deed} (hd : ∀ a, kidOf a d = none) : ∀ {n : Nat} {x : Option Stp} {l : List Stp}, Pre L n x l → Pre (L ++ [d]) n x l
  | _, x, _, .mk h => by
    have ek : kids (L ++ [d]) x = kids L x := by rw [kids_snoc, hd]; simp
    refine .mk ?_
    rw [ek]
    exact preL_other hd h
theorem preL_other {L : List Deed} {d : Deed} (hd : ∀ a, kidOf a d = none) : ∀ {n : Nat} {x : List Stp} {l : List Stp}, PreL L n x l → PreL (L ++ [d]) n x l
  | _, _, _, .nil => .nil
  | _, _, _, .cons a t => .cons (pre_other hd a) (preL_other hd t)
end
/-- the letters in their order: each new one right behind its place -/
def insD (l : List Stp) : Deed → List Stp
  | .write s a _ => insA a s none l
  | _ => l
def ordI (L : List Deed) : List Stp := L.foldl insD []
theorem ordI_snoc (L : List Deed) (d : Deed) : ordI (L ++ [d]) = insD (ordI L) d := by simp [ordI]
theorem kids_new {L : List Deed} (h : Wf L) {s : Stp} (hs : s ∉ lets L) : kids L (some s) = [] := by
  cases e : kids L (some s) with
  | nil => rfl
  | cons t r =>
    have ht : t ∈ kids L (some s) := by rw [e]; exact List.mem_cons_self
    obtain ⟨c, hc⟩ := mem_kids ht
    exfalso
    clear e ht
    induction h with
    | nil => cases hc
    | @snoc L d h f l ih =>
      rw [lets_snoc] at hs
      have h1 : s ∉ lets L := fun z => hs (List.mem_append_left _ z)
      rcases List.mem_append.mp hc with hc | hc
      · exact ih h1 hc
      · rw [List.mem_singleton] at hc
        subst hc
        exact h1 (f s rfl)
theorem pre_ordI {L : List Deed} (h : Wf L) : Pre L (L.length + 1) none (ordI L) := by
  induction h with
  | nil => exact pre_leaf rfl
  | @snoc L d h f l ih =>
    rw [ordI_snoc, List.length_append]
    cases d with
    | write s a c =>
      have hs : s ∉ lets L := new_notin l
      have hw : Wf (L ++ [.write s a c]) := .snoc h f l
      refine pre_write ?_ ih
      rw [kids_snoc, kids_new h hs]
      simp only [kidOf]
      have : ¬ a = some s := fun z => hs (f s z)
      rw [if_neg this]
      rfl
    | cut s g => exact (pre_other (fun a => rfl) ih).up
    | mark s b f' e v => exact (pre_other (fun a => rfl) ih).up
    | sw on s g => exact (pre_other (fun a => rfl) ih).up
mutual
theorem Pre.inj {L : List Deed} : ∀ {n m : Nat} {x : Option Stp} {l l' : List Stp}, Pre L n x l → Pre L m x l' → l = l'
  | _, _, _, _, _, .mk h, .mk h' => PreL.inj h h'
theorem PreL.inj {L : List Deed} : ∀ {n m : Nat} {x : List Stp} {l l' : List Stp}, PreL L n x l → PreL L m x l' → l = l'
  | _, _, _, _, _, .nil, .nil => rfl
  | _, _, _, _, _, .cons a t, .cons a' t' => by rw [Pre.inj a a', PreL.inj t t']
end
theorem kids_sorted {L : List Deed} (h : Wf L) (a : Option Stp) : (kids L a).Pairwise fun x y => ltS y x = false := by
  have hs := h.sorted
  clear h
  induction L with
  | nil => exact .nil
  | cons d L ih =>
    obtain ⟨h1, h2⟩ := List.pairwise_cons.mp hs
    unfold kids
    rw [List.filterMap_cons]
    split
    · exact ih h2
    · rename_i s e
      refine List.pairwise_cons.mpr ⟨fun t ht => ?_, ih h2⟩
      obtain ⟨c, hc⟩ := mem_kids ht
      have es : d.st = s := by
        cases d with
        | write s' b c =>
          simp only [kidOf] at e
          split at e
          · cases e; rfl
          · cases e
        | _ => cases e
      have := h1 _ hc
      rw [es] at this
      exact ltS_asym this
theorem sortS_kids {L : List Deed} (h : Wf L) (a : Option Stp) : sortS (kids L a) = kids L a := sortS_eq (List.Perm.refl _) (kids_sorted h a)
end M

/-! Mathematics 2: what counts, what is shown -/
namespace M
open PySem DD
def swOf (g : Stp) : Deed → Option (Stp × Bool)
  | .sw on s g' => if g' = g then some (s, on) else none
  | _ => none
def sws (L : List Deed) (g : Stp) : List (Stp × Bool) := L.filterMap (swOf g)
def counts (L : List Deed) (g : Stp) : Bool := ((sws L g).getLast?.map (·.2)).getD true
theorem sws_snoc (L : List Deed) (d : Deed) (g : Stp) : sws (L ++ [d]) g = sws L g ++ (match swOf g d with | some x => [x] | none => []) := by
  unfold sws
  rw [List.filterMap_append]
  cases h : swOf g d <;> simp [h]
theorem counts_snoc (L : List Deed) (d : Deed) (g : Stp) : counts (L ++ [d]) g = (match swOf g d with | some x => x.2 | none => counts L g) := by
  unfold counts
  rw [sws_snoc]
  cases h : swOf g d <;> simp
def cutOf (g : Stp) : Deed → Option Stp
  | .cut s g' => if g' = g then some s else none
  | _ => none
def cuts (L : List Deed) (g : Stp) : List Stp := L.filterMap (cutOf g)
theorem cuts_snoc (L : List Deed) (d : Deed) (g : Stp) : cuts (L ++ [d]) g = cuts L g ++ (match cutOf g d with | some x => [x] | none => []) := by
  unfold cuts
  rw [List.filterMap_append]
  cases h : cutOf g d <;> simp [h]
def shown (L : List Deed) (s : Stp) : Bool := counts L s && !((cuts L s).map (counts L)).any id
theorem take_snoc {α : Type} {l : List α} {i : Nat} {a : α} (h : l[i]? = some a) : l.take (i + 1) = l.take i ++ [a] := by
  rw [List.take_add_one, h]; rfl
theorem map_get {α β : Type} {f : α → β} {l : List α} {i : Nat} {b : β} (h : (l.map f)[i]? = some b) : ∃ a, l[i]? = some a ∧ b = f a ∧ a ∈ l := by
  rw [List.getElem?_map] at h
  cases e : l[i]? with
  | none => rw [e] at h; cases h
  | some a => rw [e] at h; cases h; exact ⟨a, rfl, rfl, List.mem_of_getElem? e⟩
/-! the stamps stand in their order -/
theorem sws_sorted {L : List Deed} (h : L.Pairwise fun a b => ltS a.st b.st = true) (g : Stp) : (sws L g).Pairwise fun a b => ltS a.1 b.1 = true := by
  have hm : ∀ L x, x ∈ sws L g → ∃ d ∈ L, d.st = x.1 := by
    intro L x hx
    obtain ⟨d, hd, e⟩ := List.mem_filterMap.mp hx
    refine ⟨d, hd, ?_⟩
    cases d with
    | sw on s g' =>
      simp only [swOf] at e
      split at e
      · cases e; rfl
      · cases e
    | _ => cases e
  induction L with
  | nil => exact .nil
  | cons d L ih =>
    obtain ⟨h1, h2⟩ := List.pairwise_cons.mp h
    unfold sws
    rw [List.filterMap_cons]
    split
    · exact ih h2
    · rename_i x e
      refine List.pairwise_cons.mpr ⟨fun y hy => ?_, ih h2⟩
      obtain ⟨d', hd', e'⟩ := hm L y hy
      obtain ⟨d2, hd2, e2⟩ := hm [d] x (List.mem_filterMap.mpr ⟨d, List.mem_singleton_self d, e⟩)
      rw [List.mem_singleton.mp hd2] at e2
      rw [← e', ← e2]
      exact h1 d' hd'
/-! a pair of a stamp and a word -/
def encW (p : Stp × Bool) : D := .tup [encS p.1, .str (if p.2 = true then "on" else "off")]
theorem ord_encW (p q : Stp × Bool) : ∃ b, ordD .gt (encW p) (encW q) = some b ∧ (ltS q.1 p.1 = true → b = true) := by
  obtain ⟨⟨n, x⟩, a⟩ := p
  obtain ⟨⟨m, y⟩, b⟩ := q
  refine ⟨_, rfl, fun h => ?_⟩
  have e1 : eqP (toP (encS (n, x))) (toP (encS (m, y))) = eqD (encS (n, x)) (encS (m, y)) := rfl
  have hne : eqD (encS (n, x)) (encS (m, y)) = false := by
    rw [eqD_encS]
    exact decide_eq_false fun z => by rw [z, ltS_irr] at h; cases h
  rw [e1, hne]
  simp only [Bool.false_eq_true, if_false]
  show (if eqP (.num n) (.num m) = true then (if eqP (.text x) (.text y) = true then decide ((0:Nat) > 0) else decide (y.cps.toList < x.cps.toList)) else decide (m < n)) = true
  rcases ltS_iff.mp h with z | ⟨z1, z2⟩
  · have z : m < n := z
    have : eqP (.num n) (.num m) = false := by
      have e : eqP (.num n) (.num m) = (n == m) := rfl
      rw [e]
      simp
      omega
    rw [this]
    simpa using z
  · have z1 : m = n := z1
    have z2 : y.cps.toList < x.cps.toList := z2
    subst z1
    have e2 : eqP (.num m) (.num m) = true := eqP_self _
    rw [if_pos e2]
    have e3 : eqP (.text x) (.text y) = false := by
      have e : eqP (.text x) (.text y) = (x == y) := rfl
      rw [e]
      refine Bool.eq_false_iff.mpr fun w => ?_
      have w := eq_of_beq w
      subst w
      exact List.lt_irrefl _ z2
    rw [e3]
    simpa using z2
theorem max_last {x : Stp × Bool} {l : List (Stp × Bool)} (h : (x :: l).Pairwise fun a b => ltS a.1 b.1 = true) : maxD (encW x) (l.map encW) = encW ((x :: l).getLast (List.cons_ne_nil _ _)) := by
  unfold maxD
  induction l generalizing x with
  | nil => rfl
  | cons y l ih =>
    obtain ⟨h1, h2⟩ := List.pairwise_cons.mp h
    rw [List.map_cons, List.foldl_cons]
    obtain ⟨b, e, hb⟩ := ord_encW y x
    rw [e, hb (h1 y List.mem_cons_self)]
    rw [Option.getD_some, if_pos rfl]
    exact ih h2
theorem rMax_sws {G : DG} {Q : DK} {a : Addr} {x : Stp × Bool} {l : List (Stp × Bool)} (h : (x :: l).Pairwise fun a b => ltS a.1 b.1 = true) (hG : G a = some (.lst ((x :: l).map encW))) (q : Q (encW ((x :: l).getLast (List.cons_ne_nil _ _))) G) : DD.rMax1 [.ref a] G Q := by
  show (match G a with | some (.lst (x :: xs)) => ((∀ y ∈ x :: xs, flat y = true ∧ dpP (toP y) ≤ 60) ∧ ∀ y ∈ x :: xs, ∀ z ∈ x :: xs, (ordD .gt y z).isSome = true) ∧ Q (maxD x xs) G | _ => False)
  rw [hG, List.map_cons]
  refine ⟨⟨fun y hy => ?_, fun y hy z hz => ?_⟩, ?_⟩
  · rw [← List.map_cons] at hy
    obtain ⟨p, _, rfl⟩ := List.mem_map.mp hy
    refine ⟨rfl, ?_⟩
    show max 1 (max 0 0) + 1 ≤ 60
    omega
  · rw [← List.map_cons] at hy hz
    obtain ⟨p, _, rfl⟩ := List.mem_map.mp hy
    obtain ⟨q, _, rfl⟩ := List.mem_map.mp hz
    obtain ⟨b, e, _⟩ := ord_encW p q
    rw [e]
    rfl
  · rw [max_last h]
    exact q
end M

/-! Mathematics 3: the letters behind a letter, in a dict of lists -/
namespace M
open PySem DD PyProof.Rows L2
theorem keyD_encS {a b : Stp} (h : keyD (encS a) = keyD (encS b)) : a = b := by
  obtain ⟨n, x⟩ := a
  obtain ⟨m, y⟩ := b
  simp only [encS, keyD, keyDs, NestedKey.tup.injEq, List.cons.injEq, NestedKey.num.injEq, NestedKey.text.injEq, and_true] at h
  rw [h.1, h.2]
theorem keyD_encO {a b : Option Stp} (h : keyD (encO a) = keyD (encO b)) : a = b := by
  cases a with
  | none =>
    cases b with
    | none => rfl
    | some b => simp [encO, encS, keyD] at h
  | some a =>
    cases b with
    | none => simp [encO, encS, keyD] at h
    | some b => rw [keyD_encS h]
theorem key_ok (a : Option Stp) : keyOk (encO a) := by
  refine ⟨flat_encO a, ?_⟩
  cases a with
  | none => decide
  | some a =>
    show (NestedKey.tup [NestedKey.num a.1, NestedKey.text a.2]).depth ≤ 8
    simp [NestedKey.depth, NestedKey.depthAll]
structure Beh (pb : Addr) (n : Nat) (prs : List (Option Stp × Addr)) (kd : Option Stp → List Stp) (G : DG) : Prop where
  len : prs.length ≤ n
  b : G pb = some (.dct (prs.map fun x => (encO x.1, .ref x.2)))
  inj : ∀ x ∈ prs, ∀ y ∈ prs, x.2 = y.2 → x = y
  key : ∀ x ∈ prs, ∀ y ∈ prs, x.1 = y.1 → x = y
  nb : ∀ x ∈ prs, x.2 ≠ pb
  val : ∀ x ∈ prs, G x.2 = some (.lst ((kd x.1).map encS))
  out : ∀ a, (∀ x ∈ prs, x.1 ≠ a) → kd a = []
theorem Beh.zero {pb : Addr} {kd : Option Stp → List Stp} {G : DG} (h : G pb = some (.dct [])) (e : ∀ a, kd a = []) : Beh pb 0 [] kd G :=
  ⟨Nat.le_refl _, h, fun _ h => (List.not_mem_nil h).elim, fun _ h => (List.not_mem_nil h).elim, fun _ h => (List.not_mem_nil h).elim, fun _ h => (List.not_mem_nil h).elim, fun a _ => e a⟩
theorem get_prs {a : Option Stp} : ∀ {prs : List (Option Stp × Addr)},
    (∃ q, (a, q) ∈ prs ∧ dgetE (keyD (encO a)) (prs.map fun x => (encO x.1, D.ref x.2)) = some (.ref q)) ∨ ((∀ x ∈ prs, x.1 ≠ a) ∧ dgetE (keyD (encO a)) (prs.map fun x => (encO x.1, D.ref x.2)) = none)
  | [] => .inr ⟨fun _ h => (List.not_mem_nil h).elim, rfl⟩
  | (b, q) :: prs => by
    rw [List.map_cons]
    unfold dgetE
    by_cases h : keyD (encO b) = keyD (encO a)
    · rw [if_pos h]
      have := keyD_encO h
      subst this
      exact .inl ⟨q, List.mem_cons_self, rfl⟩
    · rw [if_neg h]
      rcases get_prs (a := a) (prs := prs) with ⟨q', h1, h2⟩ | ⟨h1, h2⟩
      · exact .inl ⟨q', List.mem_cons_of_mem _ h1, h2⟩
      · refine .inr ⟨fun x hx => ?_, h2⟩
        rcases List.mem_cons.mp hx with z | z
        · rw [z]; exact fun w => h (by have w : b = a := w; rw [w])
        · exact h1 x z
section
variable {pb p : Addr} {n : Nat} {prs : List (Option Stp × Addr)} {kd : Option Stp → List Stp} {G : DG} {o : O} {a : Option Stp} {s : Stp}
/-- another object changes -/
theorem Beh.other (h : Beh pb n prs kd G) (h1 : p ≠ pb) (h2 : ∀ x ∈ prs, x.2 ≠ p) : Beh pb n prs kd (gup G p o) :=
  { h with b := by rw [gup_ne (Ne.symm h1)]; exact h.b, val := fun x hx => by rw [gup_ne (h2 x hx)]; exact h.val x hx }
theorem Beh.alloc (h : Beh pb n prs kd G) (hp : G p = none) : Beh pb n prs kd (gup G p o) :=
  h.other (fun z => by rw [z, h.b] at hp; cases hp) (fun x hx z => by rw [← z, h.val x hx] at hp; cases hp)
theorem Beh.get (h : Beh pb n prs kd G) (hp : G p = none) (a : Option Stp) : ∃ q, (dgetE (keyD (encO a)) (prs.map fun x => (encO x.1, D.ref x.2))).getD (.ref p) = .ref q ∧ gup G p (.lst []) q = some (.lst ((kd a).map encS)) := by
  rcases get_prs (a := a) (prs := prs) with ⟨q, h1, h2⟩ | ⟨h1, h2⟩
  · exact ⟨q, by rw [h2]; rfl, (h.alloc hp).val (a, q) h1⟩
  · exact ⟨p, by rw [h2]; rfl, by rw [gup_same, h.out a h1]; rfl⟩
theorem Beh.same (h : Beh pb n prs kd G) {kd' : Option Stp → List Stp} (e : ∀ b, kd b = kd' b) : Beh pb (n + 1) prs kd' G := by
  have : kd = kd' := funext e
  rw [← this]
  exact { h with len := Nat.le_succ_of_le h.len }
/-- one more, in a list that stands -/
theorem Beh.add (h : Beh pb n prs kd G) {q : Addr} (hq : (a, q) ∈ prs) {kd' : Option Stp → List Stp} (e1 : kd' a = kd a ++ [s]) (e2 : ∀ b, b ≠ a → kd' b = kd b) : Beh pb (n + 1) prs kd' (gup G q (.lst ((kd a).map encS ++ [encS s]))) := by
  refine ⟨Nat.le_succ_of_le h.len, by rw [gup_ne (Ne.symm (h.nb _ hq))]; exact h.b, h.inj, h.key, h.nb, fun x hx => ?_, fun b hb => ?_⟩
  · by_cases z : x.2 = q
    · have := h.inj x hx _ hq z
      subst this
      rw [gup_same, e1]
      simp
    · rw [gup_ne z, h.val x hx, e2 _ fun w => z (by rw [h.key x hx _ hq w])]
  · have : b ≠ a := fun z => hb _ hq z.symm
    rw [e2 b this]
    exact h.out b hb
/-- one more, in a new list -/
theorem Beh.new (h : Beh pb n prs kd G) (hp : G p = none) (ha : ∀ x ∈ prs, x.1 ≠ a) {kd' : Option Stp → List Stp} (e1 : kd' a = kd a ++ [s]) (e2 : ∀ b, b ≠ a → kd' b = kd b) {xs : List D} (ex : xs = [encS s]) :
    Beh pb (n + 1) (prs ++ [(a, p)]) kd' (gup (gup (gup G p (.lst [])) pb (.dct (prs.map (fun x => (encO x.1, D.ref x.2)) ++ [(encO a, .ref p)]))) p (.lst xs)) := by
  have npb : p ≠ pb := fun z => by rw [z, h.b] at hp; cases hp
  have np : ∀ x ∈ prs, x.2 ≠ p := fun x hx z => by rw [← z, h.val x hx] at hp; cases hp
  have mem : ∀ {x}, x ∈ prs ++ [(a, p)] → x ∈ prs ∨ x = (a, p) := fun hx => by
    rcases List.mem_append.mp hx with z | z
    · exact .inl z
    · exact .inr (List.mem_singleton.mp z)
  refine ⟨by rw [List.length_append]; have := h.len; show prs.length + 1 ≤ n + 1; omega, ?_, ?_, ?_, ?_, ?_, ?_⟩
  · rw [gup_ne (Ne.symm npb), gup_same, List.map_append]
    rfl
  · intro x hx y hy e
    rcases mem hx with hx | hx <;> rcases mem hy with hy | hy
    · exact h.inj x hx y hy e
    · subst hy; exact (np x hx e).elim
    · subst hx; exact (np y hy e.symm).elim
    · rw [hx, hy]
  · intro x hx y hy e
    rcases mem hx with hx | hx <;> rcases mem hy with hy | hy
    · exact h.key x hx y hy e
    · subst hy; exact (ha x hx e).elim
    · subst hx; exact (ha y hy e.symm).elim
    · rw [hx, hy]
  · intro x hx
    rcases mem hx with hx | hx
    · exact h.nb x hx
    · subst hx; exact npb
  · intro x hx
    rcases mem hx with hx | hx
    · rw [gup_ne (np x hx), gup_ne (h.nb x hx), gup_ne (np x hx), h.val x hx, e2 _ (ha x hx)]
    · subst hx
      rw [gup_same, e1, h.out a ha, ex]
      rfl
  · intro b hb
    have : b ≠ a := fun z => hb (a, p) (List.mem_append_right _ List.mem_cons_self) z.symm
    rw [e2 b this]
    exact h.out b fun x hx => hb x (List.mem_append_left _ hx)
end
theorem PreL.append {L : List Deed} {n : Nat} : ∀ {ks l ks' l' : List Stp}, PreL L n ks l → PreL L n ks' l' → PreL L n (ks ++ ks') (l ++ l')
  | _, _, _, _, .nil, h => h
  | _, _, _, _, .cons (r := r) a t, h => by
    rw [List.cons_append, List.cons_append, List.append_assoc]
    exact .cons a (PreL.append t h)
theorem PreL.kids {L : List Deed} {n : Nat} {s : Stp} {S l r : List Stp} (h1 : Pre L n (some s) l) (h2 : PreL L n S.reverse r) : PreL L n (S ++ kids L (some s)).reverse (l ++ r) := by
  rw [List.reverse_append]
  cases h1 with
  | mk h => exact PreL.append h.up h2
theorem PreL.len {L : List Deed} {n : Nat} : ∀ {ks l : List Stp}, PreL L n ks l → ks.length ≤ l.length
  | _, _, .nil => Nat.le_refl _
  | _, _, .cons (r := r) a t => by
    have := PreL.len t
    rw [List.length_cons, List.length_cons, List.length_append]
    omega
/-! the length of the order -/
theorem insT_len {a : Option Stp} {s : Stp} {l : List Stp} (h : l.Nodup) : (insT a s l).length ≤ l.length + (if ∃ t ∈ l, some t = a then 1 else 0) := by
  induction l with
  | nil => simp [insT]
  | cons t l ih =>
    obtain ⟨h1, h2⟩ := List.nodup_cons.mp h
    have ih := ih h2
    have e : insT a s (t :: l) = (if some t = a then [t, s] else [t]) ++ insT a s l := rfl
    rw [e, List.length_append, List.length_cons]
    by_cases z : some t = a
    · rw [if_pos z, if_pos ⟨t, List.mem_cons_self, z⟩]
      rw [if_neg (fun ⟨u, hu, w⟩ => by rw [← z] at w; cases w; exact h1 hu)] at ih
      show 2 + _ ≤ _
      omega
    · rw [if_neg z]
      have : (∃ u ∈ t :: l, some u = a) ↔ ∃ u ∈ l, some u = a := by
        constructor
        · rintro ⟨u, hu, w⟩
          rcases List.mem_cons.mp hu with y | y
          · subst y; exact (z w).elim
          · exact ⟨u, y, w⟩
        · rintro ⟨u, hu, w⟩; exact ⟨u, List.mem_cons_of_mem _ hu, w⟩
      by_cases y : ∃ u ∈ l, some u = a
      · rw [if_pos y] at ih
        rw [if_pos (this.mpr y)]
        show 1 + _ ≤ _
        omega
      · rw [if_neg y] at ih
        rw [if_neg (fun w => y (this.mp w))]
        show 1 + _ ≤ _
        omega
theorem insT_mem {a : Option Stp} {s t : Stp} {l : List Stp} (h : t ∈ insT a s l) : t ∈ l ∨ t = s := by
  obtain ⟨u, hu, e⟩ := List.mem_flatMap.mp h
  split at e
  · rcases List.mem_cons.mp e with z | z
    · exact .inl (z ▸ hu)
    · exact .inr (List.mem_singleton.mp z)
  · exact .inl (List.mem_singleton.mp e ▸ hu)
theorem insT_nodup {a : Option Stp} {s : Stp} {l : List Stp} (h : l.Nodup) (hs : s ∉ l) : (insT a s l).Nodup := by
  induction l with
  | nil => exact .nil
  | cons t l ih =>
    obtain ⟨h1, h2⟩ := List.nodup_cons.mp h
    obtain ⟨s1, s2⟩ : s ≠ t ∧ s ∉ l := by simpa [List.mem_cons] using hs
    have e : insT a s (t :: l) = (if some t = a then [t, s] else [t]) ++ insT a s l := rfl
    have ht : t ∉ insT a s l := fun z => by
      rcases insT_mem z with w | w
      · exact h1 w
      · exact s1 w.symm
    rw [e]
    by_cases z : some t = a
    · rw [if_pos z]
      subst z
      have el : insT (some t) s l = l := by
        clear e ht ih hs h s1 s2 h2
        induction l with
        | nil => rfl
        | cons u l ih =>
          have : ¬ some u = some t := fun w => h1 (by cases w; exact List.mem_cons_self)
          show (if some u = some t then [u, s] else [u]) ++ insT (some t) s l = _
          rw [if_neg this, ih fun w => h1 (List.mem_cons_of_mem _ w)]
          rfl
      rw [el]
      refine List.nodup_cons.mpr ⟨?_, List.nodup_cons.mpr ⟨s2, h2⟩⟩
      intro w
      rcases List.mem_cons.mp w with w | w
      · exact s1 w.symm
      · exact h1 w
    · rw [if_neg z]
      exact List.nodup_cons.mpr ⟨ht, ih h2 s2⟩
theorem ordI_ok {L : List Deed} (h : Wf L) : (ordI L).Nodup ∧ (∀ s ∈ ordI L, s ∈ lets L) ∧ (ordI L).length ≤ L.length := by
  induction h with
  | nil => exact ⟨.nil, fun _ h => (List.not_mem_nil h).elim, Nat.le_refl _⟩
  | @snoc L d h f l ih =>
    obtain ⟨i1, i2, i3⟩ := ih
    rw [ordI_snoc, lets_snoc, List.length_append]
    cases d with
    | write s a c =>
      have hs : s ∉ ordI L := fun z => new_notin l (i2 s z)
      have hm : ∀ t ∈ insT a s (ordI L), t ∈ lets L ++ [s] := fun t ht => by
        rcases insT_mem ht with w | w
        · exact List.mem_append_left _ (i2 t w)
        · rw [w]; exact List.mem_append_right _ List.mem_cons_self
      show (insA a s none (ordI L)).Nodup ∧ (∀ t ∈ insA a s none (ordI L), t ∈ lets L ++ [s]) ∧ (insA a s none (ordI L)).length ≤ L.length + 1
      unfold insA
      by_cases z : none = a
      · rw [if_pos z]
        subst z
        have e : insT none s (ordI L) = ordI L := by
          clear hm hs i1 i2 i3
          induction ordI L with
          | nil => rfl
          | cons u l ih =>
            show (if some u = none then [u, s] else [u]) ++ insT none s l = _
            rw [if_neg (fun w => by cases w), ih]
            rfl
        rw [e]
        refine ⟨List.nodup_cons.mpr ⟨hs, i1⟩, fun t ht => ?_, by show (ordI L).length + 1 ≤ _; omega⟩
        rcases List.mem_cons.mp ht with w | w
        · rw [w]; exact List.mem_append_right _ List.mem_cons_self
        · exact List.mem_append_left _ (i2 t w)
      · rw [if_neg z]
        refine ⟨insT_nodup i1 hs, hm, ?_⟩
        have := insT_len (a := a) (s := s) i1
        rw [List.nil_append]
        split at this <;> omega
    | cut s g => exact ⟨i1, fun t ht => List.mem_append_left _ (i2 t ht), by simp only [insD]; omega⟩
    | mark s b f' e v => exact ⟨i1, fun t ht => List.mem_append_left _ (i2 t ht), by simp only [insD]; omega⟩
    | sw on s g => exact ⟨i1, fun t ht => List.mem_append_left _ (i2 t ht), by simp only [insD]; omega⟩
theorem kids_len (L : List Deed) (a : Option Stp) : (kids L a).length ≤ L.length := List.length_filterMap_le _ _
end M

/-! Mathematics 4: a long row and a wide row of letters -/
namespace M
open PySem DD PyProof.Rows L2
def sta (i : Nat) : Stp := ((i : Int) + 1, "a")
def stas (n : Nat) : List Stp := (List.range n).map sta
theorem stas_succ (n : Nat) : stas (n + 1) = stas n ++ [sta n] := by
  unfold stas
  rw [List.range_succ, List.map_append]
  rfl
theorem sta_inj {i j : Nat} (h : sta i = sta j) : i = j := by
  have : (i : Int) + 1 = j + 1 := congrArg Prod.fst h
  omega
theorem mem_stas {n : Nat} {s : Stp} (h : s ∈ stas n) : ∃ i, i < n ∧ s = sta i := by
  obtain ⟨i, hi, e⟩ := List.mem_map.mp h
  exact ⟨i, List.mem_range.mp hi, e.symm⟩
theorem sta_mem {n i : Nat} (h : i < n) : sta i ∈ stas n := List.mem_map.mpr ⟨i, List.mem_range.mpr h, rfl⟩
def prev : Nat → Option Stp
  | 0 => none
  | n + 1 => some (sta n)
def row (pv : Nat → Option Stp) (n : Nat) : List Deed := (List.range n).map fun i => .write (sta i) (pv i) 120
theorem row_succ (pv : Nat → Option Stp) (n : Nat) : row pv (n + 1) = row pv n ++ [.write (sta n) (pv n) 120] := by
  unfold row
  rw [List.range_succ, List.map_append]
  rfl
theorem row_len (pv : Nat → Option Stp) (n : Nat) : (row pv n).length = n := by simp [row]
theorem row_lets (pv : Nat → Option Stp) (n : Nat) : lets (row pv n) = stas n := by
  induction n with
  | zero => rfl
  | succ n ih => rw [row_succ, lets_snoc, ih, stas_succ]; rfl
theorem row_wf {pv : Nat → Option Stp} (h : ∀ n s, pv n = some s → s ∈ stas n) : ∀ n, Wf (row pv n)
  | 0 => .nil
  | n + 1 => by
    rw [row_succ]
    refine .snoc (row_wf h n) (fun s e => ?_) fun e he => ?_
    · rw [row_lets]; exact h n s e
    · obtain ⟨i, hi, q⟩ := List.mem_map.mp he
      subst q
      have := List.mem_range.mp hi
      exact ltS_iff.mpr (.inl (by show (i : Int) + 1 < n + 1; omega))
theorem prev_ok : ∀ n s, prev n = some s → s ∈ stas n
  | 0, _, h => by cases h
  | n + 1, s, h => by cases h; exact sta_mem (Nat.lt_succ_self n)
theorem insT_no {a : Option Stp} {s : Stp} {l : List Stp} (h : ∀ t ∈ l, some t ≠ a) : insT a s l = l := by
  induction l with
  | nil => rfl
  | cons t l ih =>
    show (if some t = a then [t, s] else [t]) ++ insT a s l = _
    rw [if_neg (h t List.mem_cons_self), ih fun u hu => h u (List.mem_cons_of_mem _ hu)]
    rfl
theorem insT_app {a : Option Stp} {s : Stp} {l m : List Stp} : insT a s (l ++ m) = insT a s l ++ insT a s m := by
  unfold insT
  rw [List.flatMap_append]
theorem ord_long : ∀ n, ordI (row prev n) = stas n
  | 0 => rfl
  | n + 1 => by
    rw [row_succ, ordI_snoc, ord_long n, stas_succ]
    show insA (prev n) (sta n) none (stas n) = _
    cases n with
    | zero => rfl
    | succ n =>
      show [] ++ insT (some (sta n)) (sta (n + 1)) (stas (n + 1)) = _
      rw [List.nil_append, stas_succ, insT_app, insT_no fun t ht e => ?_]
      · rw [List.append_assoc]
        congr 1
        show (if some (sta n) = some (sta n) then [sta n, sta (n + 1)] else [sta n]) ++ [] = _
        rw [if_pos rfl]
        rfl
      · cases e
        obtain ⟨i, hi, q⟩ := mem_stas ht
        have := sta_inj q
        omega
theorem ord_wide : ∀ n, ordI (row (fun _ => none) n) = (stas n).reverse
  | 0 => rfl
  | n + 1 => by
    rw [row_succ, ordI_snoc, ord_wide n, stas_succ, List.reverse_append]
    show [sta n] ++ insT none (sta n) (stas n).reverse = _
    rw [insT_no fun t _ e => by cases e]
    rfl
theorem Pre.ups {L : List Deed} {n : Nat} {x : Option Stp} {l : List Stp} (h : Pre L n x l) : ∀ m, Pre L (n + m) x l
  | 0 => h
  | m + 1 => (Pre.ups h m).up
end M

/-! Mathematics 5: dicts by stamps -/
namespace M
open PySem DD PyProof.Rows L2
theorem dget_put {kd : NestedKey} {k v : D} : ∀ {es : List (D × D)}, dgetE kd (dputE k v es) = if keyD k = kd then some v else dgetE kd es
  | [] => by
    show (if keyD k = kd then some v else dgetE kd []) = _
    rfl
  | p :: r => by
    unfold dputE
    by_cases h : keyD p.1 = keyD k
    · rw [if_pos h]
      unfold dgetE
      rw [← h]
      by_cases h2 : keyD p.1 = kd
      · rw [if_pos h2, if_pos h2]
      · rw [if_neg h2, if_neg h2, if_neg h2]
    · rw [if_neg h]
      unfold dgetE
      rw [dget_put]
      by_cases h2 : keyD p.1 = kd
      · rw [if_pos h2, if_pos h2, if_neg (fun z => h (by rw [h2, z]))]
      · rw [if_neg h2, if_neg h2]
def FD (es : List (D × D)) (f : Stp → Option D) : Prop := ∀ s, dgetE (keyD (encS s)) es = f s
theorem FD.nil : FD [] fun _ => none := fun _ => rfl
theorem FD.put {es : List (D × D)} {f : Stp → Option D} (h : FD es f) (s : Stp) (v : D) : FD (dputE (encS s) v es) fun t => if s = t then some v else f t := by
  intro t
  rw [dget_put, h t]
  show _ = if s = t then some v else f t
  by_cases z : s = t
  · subst z; rw [if_pos rfl, if_pos rfl]
  · rw [if_neg (fun w => z (keyD_encS w)), if_neg z]
theorem FD.eq {es : List (D × D)} {f g : Stp → Option D} (h : FD es f) (e : ∀ s, f s = g s) : FD es g := fun s => (h s).trans (e s)
def fdAll (l : List (Stp × D)) (s : Stp) : Option D := l.foldl (fun acc p => if p.1 = s then some p.2 else acc) none
def dictS (l : List (Stp × D)) : List (D × D) := putAll (l.map fun p => (encS p.1, p.2)) []
theorem fd_go (l : List (Stp × D)) : ∀ (es : List (D × D)) (f : Stp → Option D), FD es f → FD (putAll (l.map fun p => (encS p.1, p.2)) es) fun s => l.foldl (fun acc p => if p.1 = s then some p.2 else acc) (f s) := by
  induction l with
  | nil => exact fun es f h => h
  | cons p l ih => exact fun es f h => ih _ _ (h.put p.1 p.2)
theorem fd_all (l : List (Stp × D)) : FD (dictS l) (fdAll l) := fd_go l [] _ FD.nil
theorem fd_keep {s : Stp} : ∀ {l : List (Stp × D)} {a : Option D}, (∀ p ∈ l, p.1 ≠ s) → l.foldl (fun acc p => if p.1 = s then some p.2 else acc) a = a
  | [], _, _ => rfl
  | p :: l, a, h => by
    rw [List.foldl_cons, if_neg (h p List.mem_cons_self)]
    exact fd_keep fun q hq => h q (List.mem_cons_of_mem _ hq)
theorem fd_mem {l : List (Stp × D)} (nd : (l.map (·.1)).Nodup) {p : Stp × D} (h : p ∈ l) : fdAll l p.1 = some p.2 := by
  unfold fdAll
  generalize (none : Option D) = a
  induction l generalizing a with
  | nil => cases h
  | cons q l ih =>
    rw [List.map_cons] at nd
    obtain ⟨n1, n2⟩ := List.nodup_cons.mp nd
    rw [List.foldl_cons]
    rcases List.mem_cons.mp h with z | z
    · subst z
      rw [if_pos rfl]
      exact fd_keep fun x hx e => n1 (List.mem_map.mpr ⟨x, hx, e⟩)
    · exact ih n2 z _
theorem fd_none {l : List (Stp × D)} {s : Stp} (h : ∀ p ∈ l, p.1 ≠ s) : fdAll l s = none := fd_keep h
theorem dictS_len (l : List (Stp × D)) : (dictS l).length ≤ l.length := by
  have := putAll_len (l.map fun p => (encS p.1, p.2)) []
  rw [List.length_map] at this
  unfold dictS
  simpa using this
theorem keyS_ok (s : Stp) : keyOk (encS s) := key_ok (some s)
/-! letters -/
def wrOf : Deed → Option (Stp × D)
  | .write s _ c => some (s, .str ⟨#[c]⟩)
  | _ => none
def wrs (L : List Deed) : List (Stp × D) := L.filterMap wrOf
theorem wrs_snoc (L : List Deed) (d : Deed) : wrs (L ++ [d]) = wrs L ++ (match wrOf d with | some x => [x] | none => []) := by
  unfold wrs
  rw [List.filterMap_append]
  cases h : wrOf d <;> simp [h]
theorem wrs_keys (L : List Deed) : (wrs L).map (·.1) = lets L := by
  unfold wrs lets
  induction L with
  | nil => rfl
  | cons d L ih =>
    cases d with
    | write s a c =>
      show s :: (List.filterMap wrOf L).map (·.1) = s :: List.filterMap Deed.isW L
      rw [ih]
    | _ => exact ih
theorem wrs_len (L : List Deed) : (wrs L).length ≤ L.length := List.length_filterMap_le _ _
/-- the letter of a stamp -/
theorem ltr_of {L : List Deed} (hW : Wf L) {s : Stp} (h : s ∈ lets L) : ∃ c a, Deed.write s a c ∈ L ∧ fdAll (wrs L) s = some (.str ⟨#[c]⟩) := by
  obtain ⟨d, hd, e⟩ := List.mem_filterMap.mp h
  cases d with
  | write t a c =>
    cases e
    exact ⟨c, a, hd, fd_mem (by rw [wrs_keys]; exact hW.lets_nodup) (p := (s, .str ⟨#[c]⟩)) (List.mem_filterMap.mpr ⟨_, hd, rfl⟩)⟩
  | _ => cases e
/-! touched -/
def tchOf (s : Stp) : Deed → Bool
  | .cut _ g => decide (g = s)
  | .sw _ _ g => decide (g = s)
  | _ => false
def tch (L : List Deed) (s : Stp) : Bool := L.any (tchOf s)
theorem tch_snoc (L : List Deed) (d : Deed) (s : Stp) : tch (L ++ [d]) s = (tch L s || tchOf s d) := by
  unfold tch
  rw [List.any_append]
  simp
theorem tch_no {L : List Deed} {s : Stp} (h : tch L s = false) : shown L s = true := by
  have h := List.any_eq_false.mp h
  have e1 : sws L s = [] := by
    unfold sws
    rw [List.filterMap_eq_nil_iff]
    intro d hd
    have := h d hd
    cases d with
    | sw on t g =>
      simp only [tchOf, decide_eq_true_eq] at this
      simp only [swOf, if_neg this]
    | _ => rfl
  have e2 : cuts L s = [] := by
    unfold cuts
    rw [List.filterMap_eq_nil_iff]
    intro d hd
    have := h d hd
    cases d with
    | cut t g =>
      simp only [tchOf, decide_eq_true_eq] at this
      simp only [cutOf, if_neg this]
    | _ => rfl
  unfold shown counts
  rw [e1, e2]
  rfl
/-! places -/
def pls (L : List Deed) : List (Stp × D) := (ordI L).zipIdx.map fun p => (p.1, D.int (p.2 : Nat))
theorem pls_keys (L : List Deed) : (pls L).map (·.1) = ordI L := by
  unfold pls
  rw [List.map_map]
  show (ordI L).zipIdx.map (fun p => p.1) = _
  simp
theorem pls_get {L : List Deed} (hW : Wf L) {s : Stp} {i : Nat} (h : (ordI L)[i]? = some s) : fdAll (pls L) s = some (.int (i : Nat)) := by
  refine fd_mem (by rw [pls_keys]; exact (ordI_ok hW).1) (p := (s, .int (i : Nat))) ?_
  refine List.mem_map.mpr ⟨(s, i), ?_, rfl⟩
  rw [List.mem_zipIdx_iff_getElem?]
  exact h
end M

/-! Mathematics 6: places, marks -/
namespace M
open PySem DD PyProof.Rows L2
theorem insT_keep {a : Option Stp} {s t : Stp} {l : List Stp} (h : t ∈ l) : t ∈ insT a s l := by
  refine List.mem_flatMap.mpr ⟨t, h, ?_⟩
  split <;> exact List.mem_cons_self
theorem insT_new {t s : Stp} {l : List Stp} (h : t ∈ l) : s ∈ insT (some t) s l := by
  refine List.mem_flatMap.mpr ⟨t, h, ?_⟩
  rw [if_pos rfl]
  exact List.mem_cons_of_mem _ List.mem_cons_self
theorem ordI_all {L : List Deed} (h : Wf L) : ∀ s ∈ lets L, s ∈ ordI L := by
  induction h with
  | nil => exact fun _ h => (List.not_mem_nil h).elim
  | @snoc L d h f l ih =>
    intro t ht
    rw [ordI_snoc]
    rw [lets_snoc] at ht
    cases d with
    | write s a c =>
      show t ∈ insA a s none (ordI L)
      unfold insA
      rcases List.mem_append.mp ht with ht | ht
      · exact List.mem_append_right _ (insT_keep (ih t ht))
      · rw [List.mem_singleton.mp ht]
        cases a with
        | none => rw [if_pos rfl]; exact List.mem_append_left _ List.mem_cons_self
        | some u => exact List.mem_append_right _ (insT_new (ih u (f u rfl)))
    | _ =>
      simp only [Deed.isW, List.append_nil] at ht
      exact ih t ht
def plc (L : List Deed) (s : Stp) : Nat := (ordI L).findIdx fun t => decide (t = s)
theorem plc_at {L : List Deed} (hW : Wf L) {s : Stp} (h : s ∈ lets L) : (ordI L)[plc L s]? = some s := by
  have hx : ∃ x ∈ ordI L, decide (x = s) = true := ⟨s, ordI_all hW s h, decide_eq_true rfl⟩
  have hlt := List.findIdx_lt_length.mpr hx
  have := List.findIdx_getElem (w := hlt)
  have e : (ordI L)[plc L s] = s := of_decide_eq_true this
  unfold plc
  rw [List.getElem?_eq_getElem hlt]
  exact congrArg some e
theorem plc_fd {L : List Deed} (hW : Wf L) {s : Stp} (h : s ∈ lets L) : fdAll (pls L) s = some (.int (plc L s : Nat)) := pls_get hW (plc_at hW h)
def cov (L : List Deed) (b : Bool) (f : Stp) (e : Option Stp) (s : Stp) : Bool :=
  !decide (plc L s < plc L f) && (match e with
    | none => true
    | some e => if b = true then decide (plc L s < plc L e) else decide (plc L s ≤ plc L e))
def covE (L : List Deed) (b : Bool) (s : Stp) (e : Option Stp) : Bool := match e with
    | none => true
    | some e => if b = true then decide (plc L s < plc L e) else decide (plc L s ≤ plc L e)
theorem cov_eq {L : List Deed} {b : Bool} {f : Stp} {e : Option Stp} {s : Stp} : cov L b f e s = (!decide (plc L s < plc L f) && covE L b s e) := by cases e <;> rfl
def covD (L : List Deed) (s : Stp) : Deed → Bool
  | .mark _ b f e _ => cov L b f e s
  | _ => false
def isMk (b : Bool) : Deed → Bool
  | .mark _ b' _ _ _ => b' == b
  | _ => false
/-- the mark that tells -/
def tell (L : List Deed) (b : Bool) (s : Stp) : Option Deed := L.reverse.find? fun d => isMk b d && (covD L s d && counts L d.st)
def ltrD (L : List Deed) (s : Stp) : Str := match fdAll (wrs L) s with
  | some (.str x) => x
  | _ => ⟨#[]⟩
theorem ltrD_of {L : List Deed} (hW : Wf L) {s : Stp} (h : s ∈ lets L) : fdAll (wrs L) s = some (.str (ltrD L s)) ∧ (ltrD L s).length = 1 := by
  obtain ⟨c, a, _, e⟩ := ltr_of hW h
  unfold ltrD
  rw [e]
  exact ⟨rfl, rfl⟩
def shownL (L : List Deed) : List Stp := (ordI L).filter (shown L)
theorem shownL_mem {L : List Deed} (hW : Wf L) {s : Stp} (h : s ∈ shownL L) : s ∈ lets L := (ordI_ok hW).2.1 s (List.mem_filter.mp h).1
theorem shownL_len {L : List Deed} (hW : Wf L) : (shownL L).length ≤ L.length := Nat.le_trans (List.length_filter_le _ _) (ordI_ok hW).2.2
def textM (L : List Deed) : Str := Txt.join (Str.ofString "") ((shownL L).map (ltrD L))
def VOk (b : Bool) : Val → Prop
  | .b _ => b = true
  | .n => b = false
  | .t x => b = false ∧ 1 ≤ x.length ∧ x.length ≤ 8
/-- a mark in L has its parts -/
theorem Wf.mark {L : List Deed} (h : Wf L) {st f : Stp} {b : Bool} {e : Option Stp} {v : Val} (hm : Deed.mark st b f e v ∈ L) : f ∈ lets L ∧ (∀ s, e = some s → s ∈ lets L) ∧ (e = none → b = true) ∧ VOk b v := by
  induction h with
  | nil => cases hm
  | @snoc L d h f' l ih =>
    rw [lets_snoc]
    rcases List.mem_append.mp hm with hm | hm
    · obtain ⟨h1, h2, h3, h4⟩ := ih hm
      exact ⟨List.mem_append_left _ h1, fun s hs => List.mem_append_left _ (h2 s hs), h3, h4⟩
    · rw [List.mem_singleton] at hm
      subst hm
      obtain ⟨h1, h2, h3, h4⟩ := f'
      exact ⟨List.mem_append_left _ h1, fun s hs => List.mem_append_left _ (h2 s hs), h3, by cases v <;> exact h4⟩
theorem filter_st {L : List Deed} (h : L.Pairwise fun a b => ltS a.st b.st = true) {m : Deed} (hm : m ∈ L) : L.filter (fun d => decide (d.st = m.st)) = [m] := by
  induction L with
  | nil => cases hm
  | cons d L ih =>
    obtain ⟨h1, h2⟩ := List.pairwise_cons.mp h
    rcases List.mem_cons.mp hm with z | z
    · subst z
      rw [List.filter_cons, if_pos (decide_eq_true rfl)]
      congr 1
      rw [List.filter_eq_nil_iff]
      intro e he q
      have q := of_decide_eq_true q
      have := h1 e he
      rw [q, ltS_irr] at this
      cases this
    · rw [List.filter_cons, if_neg, ih h2 z]
      intro q
      have q := of_decide_eq_true q
      have := h1 m z
      rw [q, ltS_irr] at this
      cases this
def mks (L : List Deed) (b : Bool) : List Deed := (L.filter (isMk b)).reverse
def cms (L : List Deed) (b : Bool) : List Deed := (mks L b).filter fun m => counts L m.st
theorem cms_mem {L : List Deed} {b : Bool} {m : Deed} (h : m ∈ cms L b) : m ∈ L ∧ isMk b m = true ∧ counts L m.st = true := by
  obtain ⟨h1, h2⟩ := List.mem_filter.mp h
  obtain ⟨h3, h4⟩ := List.mem_filter.mp (List.mem_reverse.mp h1)
  exact ⟨h3, h4, h2⟩
theorem cms_tell (L : List Deed) (b : Bool) (s : Stp) : (cms L b).find? (covD L s) = tell L b s := by
  unfold cms mks tell
  rw [← List.filter_reverse, List.filter_filter, List.find?_filter]
  congr 1
  funext d
  cases isMk b d <;> cases counts L d.st <;> cases covD L s d <;> rfl
theorem mks_len (L : List Deed) (b : Bool) : (mks L b).length ≤ L.length := by
  unfold mks
  rw [List.length_reverse]
  exact List.length_filter_le _ _
theorem tell_mem {L : List Deed} {b : Bool} {s : Stp} {m : Deed} (h : tell L b s = some m) : m ∈ L ∧ isMk b m = true := by
  have h1 := List.mem_of_find?_eq_some h
  have h2 := List.find?_some h
  simp only [Bool.and_eq_true] at h2
  exact ⟨List.mem_reverse.mp h1, h2.1⟩
def valOf : Deed → D
  | .mark _ _ _ _ v => encV v
  | _ => .non
/-- what is told of a stamp -/
def tolds (L : List Deed) (b : Bool) (s : Stp) : D := match tell L b s with
  | some m => encS m.st
  | none => .non
def bare (b : Bool) : D := if b = true then .bl false else .non
def vals (L : List Deed) (b : Bool) (s : Stp) : D := match tell L b s with
  | some m => valOf m
  | none => bare b
end M

/-! Mathematics 7: spans -/
namespace M
open PySem DD PyProof.Rows L2
/-- values of a letter: two Vals -/
def vO (o : Option Deed) (b : Bool) : Val := match o with
  | some (.mark _ _ _ _ v) => v
  | _ => if b = true then .b false else .n
def vv (L : List Deed) (s : Stp) : Val × Val := (vO (tell L true s) true, vO (tell L false s) false)
theorem vals_enc (L : List Deed) (b : Bool) (s : Stp) : vals L b s = encV (vO (tell L b s) b) := by
  unfold vals vO
  cases h : tell L b s with
  | none => cases b <;> rfl
  | some m =>
    obtain ⟨h1, h2⟩ := tell_mem h
    cases m with
    | mark st b' f e v => rfl
    | _ => cases h2
def encSp (x : Str × Val × Val) : D := .tup [.str x.1, encV x.2.1, encV x.2.2]
/-- one more letter -/
def addSp (l : List (Str × Val × Val)) (x : Str) (v : Val × Val) : List (Str × Val × Val) := match l.getLast? with
  | some y => if y.2 = v then l.dropLast ++ [(y.1 ++ x, v)] else l ++ [(x, v)]
  | none => l ++ [(x, v)]
def spansM (L : List Deed) : List (Str × Val × Val) := (shownL L).foldl (fun l s => addSp l (ltrD L s) (vv L s)) []
theorem eqD_encV (a b : Val) : eqD (encV a) (encV b) = decide (a = b) := by
  cases a with
  | b x =>
    cases b with
    | b y => cases x <;> cases y <;> rfl
    | n => cases x <;> rfl
    | t y => cases x <;> rfl
  | n =>
    cases b with
    | b y => cases y <;> rfl
    | n => rfl
    | t y => rfl
  | t x =>
    cases b with
    | b y => cases y <;> rfl
    | n => rfl
    | t y =>
      show (x == y) = decide (Val.t x = Val.t y)
      by_cases h : x = y
      · subst h; simp
      · have : (x == y) = false := by simpa using h
        rw [this]
        symm
        exact decide_eq_false fun z => h (by cases z; rfl)
theorem eqD_vv (a b c d : Val) : eqD (.tup [encV a, encV b]) (.tup [encV c, encV d]) = decide ((a, b) = (c, d)) := by
  show (eqD (encV a) (encV c) && (eqD (encV b) (encV d) && true)) = _
  rw [eqD_encV, eqD_encV, Bool.and_true]
  by_cases h1 : a = c
  · by_cases h2 : b = d
    · subst h1 h2; simp
    · simp [h2]
  · simp [h1]
theorem addSp_nil (x : Str) (v : Val × Val) : addSp [] x v = [(x, v)] := rfl
theorem addSp_snoc (l : List (Str × Val × Val)) (y : Str × Val × Val) (x : Str) (v : Val × Val) : addSp (l ++ [y]) x v = if y.2 = v then l ++ [(y.1 ++ x, v)] else l ++ [y] ++ [(x, v)] := by
  unfold addSp
  rw [List.getLast?_concat, List.dropLast_concat]
theorem addSp_len (l : List (Str × Val × Val)) (x : Str) (v : Val × Val) : (addSp l x v).length ≤ l.length + 1 := by
  rcases List.eq_nil_or_concat l with h | ⟨l', y, h⟩
  · subst h; exact Nat.le_refl _
  · rw [List.concat_eq_append] at h
    subst h
    rw [addSp_snoc]
    split
    · simp
    · simp
/-- the texts stay short -/
theorem addSp_txt {l : List (Str × Val × Val)} {x : Str} {v : Val × Val} {n : Nat} (hx : x.length = 1) (h : ∀ y ∈ l, y.1.length ≤ n) (hl : 0 ≤ n) : ∀ y ∈ addSp l x v, y.1.length ≤ n + 1 := by
  rcases List.eq_nil_or_concat l with e | ⟨l', z, e⟩
  · subst e
    intro y hy
    rw [addSp_nil, List.mem_singleton] at hy
    subst hy
    show x.length ≤ n + 1
    omega
  · rw [List.concat_eq_append] at e
    subst e
    rw [addSp_snoc]
    intro y hy
    split at hy
    · rcases List.mem_append.mp hy with hy | hy
      · have := h y (List.mem_append_left _ hy); omega
      · rw [List.mem_singleton] at hy
        subst hy
        have := h z (List.mem_append_right _ List.mem_cons_self)
        show (z.1 ++ x).length ≤ n + 1
        have : (z.1 ++ x).length = z.1.length + x.length := by
          first
            | exact Str.length_append _ _
            | (show (z.1.cps ++ x.cps).size = _; rw [Array.size_append]; rfl)
        omega
    · rcases List.mem_append.mp hy with hy | hy
      · have := h y hy; omega
      · rw [List.mem_singleton] at hy
        subst hy
        show x.length ≤ n + 1
        omega
end M

/-! Mathematics 8: the text of the spans -/
namespace M
open PySem DD PyProof.Rows L2
theorem join0 : ∀ (l : List Str), (Txt.join (Str.ofString "") l).cps.toList = (l.map fun x => x.cps.toList).flatten := by
  intro l
  show (Builtin.Str.glued (Str.ofString "") l).cps.toList = _
  rw [StrLaws.glued_eq_join]
  induction l with
  | nil => rfl
  | cons a r ih =>
    cases r with
    | nil => show a.cps.toList = _; simp
    | cons b r =>
      have e : Str.join (Str.ofString "") (a :: b :: r) = a ++ Str.ofString "" ++ Str.join (Str.ofString "") (b :: r) := rfl
      have z : (Str.ofString "").cps.toList = [] := by decide +kernel
      rw [e, Str.cps_append, Str.cps_append, Array.toList_append, Array.toList_append, ih, z]
      simp
def txtS (l : List (Str × Val × Val)) : List Nat := (l.map fun y => y.1.cps.toList).flatten
theorem txtS_add (l : List (Str × Val × Val)) (x : Str) (v : Val × Val) : txtS (addSp l x v) = txtS l ++ x.cps.toList := by
  rcases List.eq_nil_or_concat l with h | ⟨l', y, h⟩
  · subst h; simp [addSp_nil, txtS]
  · rw [List.concat_eq_append] at h
    subst h
    rw [addSp_snoc]
    unfold txtS
    split
    · have e : (y.1 ++ x).cps.toList = y.1.cps.toList ++ x.cps.toList := by rw [Str.cps_append, Array.toList_append]
      simp [e]
    · simp
theorem txtS_spans (L : List Deed) : txtS (spansM L) = ((shownL L).map fun s => (ltrD L s).cps.toList).flatten := by
  unfold spansM
  have go : ∀ (ss : List Stp) (l : List (Str × Val × Val)), txtS (ss.foldl (fun l s => addSp l (ltrD L s) (vv L s)) l) = txtS l ++ (ss.map fun s => (ltrD L s).cps.toList).flatten := by
    intro ss
    induction ss with
    | nil => intro l; simp
    | cons s ss ih =>
      intro l
      rw [List.foldl_cons, ih, txtS_add]
      simp
  rw [go]
  simp [txtS]
theorem spans_text (L : List Deed) : Txt.join (Str.ofString "") ((spansM L).map (·.1)) = textM L := by
  refine str_ext ?_
  unfold textM
  rw [join0, join0, List.map_map, List.map_map]
  exact txtS_spans L
theorem textM_len {L : List Deed} (hW : Wf L) : (textM L).cps.toList.length = (shownL L).length := by
  unfold textM
  rw [join0, List.map_map, List.length_flatten, List.map_map]
  have h : ∀ s ∈ shownL L, (ltrD L s).cps.toList.length = 1 := fun s hs => by
    have := (ltrD_of hW (shownL_mem hW hs)).2
    exact this
  generalize shownL L = l at h ⊢
  induction l with
  | nil => rfl
  | cons a l ih =>
    rw [List.map_cons, List.sum_cons, ih fun b hb => h b (List.mem_cons_of_mem _ hb), List.length_cons]
    have := h a List.mem_cons_self
    show (ltrD L a).cps.toList.length + _ = _
    omega
theorem spans_sum {L : List Deed} (hW : Wf L) : (((spansM L).map (·.1)).map (·.length)).sum = (shownL L).length := by
  rw [← textM_len hW]
  have e : (textM L).cps.toList = txtS (spansM L) := by
    rw [← spans_text, join0, List.map_map]
    rfl
  rw [e]
  unfold txtS
  rw [List.length_flatten, List.map_map, List.map_map]
  rfl
theorem spans_len (L : List Deed) : (spansM L).length ≤ (shownL L).length := by
  unfold spansM
  have go : ∀ (ss : List Stp) (l : List (Str × Val × Val)), (ss.foldl (fun l s => addSp l (ltrD L s) (vv L s)) l).length ≤ l.length + ss.length := by
    intro ss
    induction ss with
    | nil => intro l; exact Nat.le_refl _
    | cons s ss ih =>
      intro l
      rw [List.foldl_cons, List.length_cons]
      have h1 := ih (addSp l (ltrD L s) (vv L s))
      have h2 := addSp_len l (ltrD L s) (vv L s)
      omega
  have := go (shownL L) []
  simpa using this
end M

/-! Mathematics 9: parts of deeds, dicts of deeds -/
namespace M
open PySem DD PyProof.Rows L2
abbrev Srt (L : List Deed) : Prop := L.Pairwise fun a b => ltS a.st b.st = true
def spD : Deed → List (Option Stp)
  | .write _ a _ => [a]
  | .cut _ g => [some g]
  | .mark _ _ f e _ => [some f, e]
  | .sw _ _ g => [some g]
theorem st_inj {L : List Deed} (h : Srt L) {d e : Deed} (hd : d ∈ L) (he : e ∈ L) (q : d.st = e.st) : d = e := by
  induction L with
  | nil => cases hd
  | cons x L ih =>
    obtain ⟨h1, h2⟩ := List.pairwise_cons.mp h
    have no : ∀ y ∈ L, y.st ≠ x.st := fun y hy z => by
      have := h1 y hy
      rw [z, ltS_irr] at this
      cases this
    rcases List.mem_cons.mp hd with a | a <;> rcases List.mem_cons.mp he with b | b
    · rw [a, b]
    · subst a; exact (no e b q.symm).elim
    · subst b; exact (no d a q).elim
    · exact ih h2 a b
theorem Wf.inv {L : List Deed} {d : Deed} (h : Wf (L ++ [d])) : Wf L ∧ Fit L d ∧ ∀ e ∈ L, ltS e.st d.st = true := by
  generalize e : L ++ [d] = M at h
  cases h with
  | nil => simp at e
  | snoc h f l =>
    obtain ⟨rfl, e2⟩ := List.append_inj' e rfl
    cases e2
    exact ⟨h, f, l⟩
theorem Wf.take {L : List Deed} (h : Wf L) (n : Nat) : Wf (L.take n) := by
  induction h with
  | nil => simp; exact .nil
  | @snoc L d h f l ih =>
    by_cases z : n ≤ L.length
    · rw [List.take_append_of_le_length z]; exact ih
    · rw [List.take_of_length_le (by rw [List.length_append]; show _ + 1 ≤ n; omega)]
      exact .snoc h f l
theorem lets_w {L : List Deed} {s : Stp} (h : s ∈ lets L) : ∃ a c, Deed.write s a c ∈ L := by
  obtain ⟨d, hd, e⟩ := List.mem_filterMap.mp h
  cases d with
  | write t a c => cases e; exact ⟨a, c, hd⟩
  | _ => cases e
/-- all of which a deed speaks is there -/
def Cl (P : List Deed) (d : Deed) : Prop := ∀ s, some s ∈ spD d → ∃ e ∈ P, e.st = s
theorem lets_part {L P : List Deed} (hS : Srt L) (hs : ∀ e ∈ P, e ∈ L) {s : Stp} (h : s ∈ lets L) (hc : ∃ e ∈ P, e.st = s) : s ∈ lets P := by
  obtain ⟨d, hd, e⟩ := List.mem_filterMap.mp h
  obtain ⟨x, hx, ex⟩ := hc
  have ed : d.st = s := by cases d <;> simp [Deed.isW] at e; exact e
  have := st_inj hS hd (hs x hx) (ed.trans ex.symm)
  exact List.mem_filterMap.mpr ⟨x, hx, this ▸ e⟩
theorem oths_part {L P : List Deed} (hS : Srt L) (hs : ∀ e ∈ P, e ∈ L) {s : Stp} (h : s ∈ oths L) (hc : ∃ e ∈ P, e.st = s) : s ∈ oths P := by
  obtain ⟨d, hd, e⟩ := List.mem_filterMap.mp h
  obtain ⟨x, hx, ex⟩ := hc
  have ed : d.st = s := by cases d <;> simp [Deed.isO] at e <;> exact e
  have := st_inj hS hd (hs x hx) (ed.trans ex.symm)
  exact List.mem_filterMap.mpr ⟨x, hx, this ▸ e⟩
theorem fit_part {L P : List Deed} {d : Deed} (hS : Srt L) (hs : ∀ e ∈ P, e ∈ L) (hf : Fit L d) (hc : Cl P d) : Fit P d := by
  cases d with
  | write s a c => exact fun t e => lets_part hS hs (hf t e) (hc t (by rw [e]; exact List.mem_cons_self))
  | cut s g => exact lets_part hS hs hf (hc g List.mem_cons_self)
  | mark s b f e v =>
    obtain ⟨h1, h2, h3, h4⟩ := hf
    exact ⟨lets_part hS hs h1 (hc f List.mem_cons_self), fun t q => lets_part hS hs (h2 t q) (hc t (by rw [q]; exact List.mem_cons_of_mem _ List.mem_cons_self)), h3, h4⟩
  | sw on s g =>
    rcases hf with h | h
    · exact .inl (lets_part hS hs h (hc g List.mem_cons_self))
    · exact .inr (oths_part hS hs h (hc g List.mem_cons_self))
theorem fit_cl {L : List Deed} {d : Deed} (hf : Fit L d) : Cl L d := by
  intro s hs
  cases d with
  | write t a c =>
    have e : some s = a := List.mem_singleton.mp hs
    exact mem_lets (hf s e.symm)
  | cut t g =>
    have e : some s = some g := List.mem_singleton.mp hs
    cases e
    exact mem_lets hf
  | mark t b f e v =>
    rcases List.mem_cons.mp hs with q | q
    · cases q; exact mem_lets hf.1
    · exact mem_lets (hf.2.1 s (List.mem_singleton.mp q).symm)
  | sw on t g =>
    have e : some s = some g := List.mem_singleton.mp hs
    cases e
    rcases hf with h | h
    · exact mem_lets h
    · exact mem_oths h
theorem Wf.speaks {L : List Deed} (h : Wf L) {d : Deed} (hd : d ∈ L) : Cl L d := by
  induction h with
  | nil => cases hd
  | @snoc L x h f l ih =>
    intro s hs
    rcases List.mem_append.mp hd with a | a
    · obtain ⟨e, he, q⟩ := ih a s hs
      exact ⟨e, List.mem_append_left _ he, q⟩
    · rw [List.mem_singleton.mp a] at hs
      obtain ⟨e, he, q⟩ := fit_cl f s hs
      exact ⟨e, List.mem_append_left _ he, q⟩
/-- what is closed stands by itself -/
theorem Wf.filter {L : List Deed} (h : Wf L) {p : Deed → Bool} (hp : ∀ d ∈ L, p d = true → ∀ s, some s ∈ spD d → ∃ e ∈ L, p e = true ∧ e.st = s) : Wf (L.filter p) := by
  induction h with
  | nil => exact .nil
  | @snoc L x h f l ih =>
    rw [List.filter_append]
    have hS := h.sorted
    have ih' : Wf (L.filter p) := ih fun d hd hpd s hs => by
      obtain ⟨e, he, h1, h2⟩ := hp d (List.mem_append_left _ hd) hpd s hs
      rcases List.mem_append.mp he with a | a
      · exact ⟨e, a, h1, h2⟩
      · obtain ⟨e', he', q⟩ := h.speaks hd s hs
        rw [List.mem_singleton.mp a] at h2
        have := l e' he'
        rw [q, h2, ltS_irr] at this
        cases this
    cases hx : p x with
    | false => simp [hx, ih']
    | true =>
      have e1 : List.filter p [x] = [x] := by simp [hx]
      rw [e1]
      refine .snoc ih' (fit_part hS (fun e he => (List.mem_filter.mp he).1) f fun s hs => ?_) fun e he => l e (List.mem_filter.mp he).1
      obtain ⟨e, he, h1, h2⟩ := hp x (List.mem_append_right _ List.mem_cons_self) hx s hs
      rcases List.mem_append.mp he with a | a
      · exact ⟨e, List.mem_filter.mpr ⟨a, h1⟩, h2⟩
      · obtain ⟨e', he', q⟩ := fit_cl f s hs
        rw [List.mem_singleton.mp a] at h2
        have := l e' he'
        rw [q, h2, ltS_irr] at this
        cases this
structure Part (L P : List Deed) : Prop where
  wf : Wf P
  sub : P.Sublist L
theorem Part.keep {L P : List Deed} {d : Deed} (h : Part L P) : Part (L ++ [d]) P := ⟨h.wf, h.sub.trans (List.sublist_append_left _ _)⟩
theorem Part.mem {L P : List Deed} (h : Part L P) : ∀ e ∈ P, e ∈ L := fun e he => h.sub.subset he
theorem Part.add {L P : List Deed} {d : Deed} (h : Part L P) (hW : Wf (L ++ [d])) (hc : Cl P d) : Part (L ++ [d]) (P ++ [d]) := by
  obtain ⟨h1, h2, h3⟩ := hW.inv
  exact ⟨.snoc h.wf (fit_part h1.sorted h.mem h2 hc) fun e he => h3 e (h.mem e he), h.sub.append (List.Sublist.refl _)⟩
/-! dicts of deeds by stamps -/
def dO (P : List Deed) : List (D × D) := P.map fun d => (encS d.st, encD d)
theorem dO_keys (P : List Deed) : (dO P).map (·.1) = (P.map (·.st)).map encS := by unfold dO; rw [List.map_map, List.map_map]; rfl
theorem dO_put {P : List Deed} {d : Deed} (h : ∀ e ∈ P, e.st ≠ d.st) : dputE (encS d.st) (encD d) (dO P) = dO (P ++ [d]) := by
  rw [dput_new]
  · unfold dO; rw [List.map_append]; rfl
  · intro z
    unfold keysE dO at z
    rw [List.map_map] at z
    obtain ⟨e, he, q⟩ := List.mem_map.mp z
    exact h e he (keyD_encS q)
theorem dO_get {P : List Deed} {s : Stp} : dgetE (keyD (encS s)) (dO P) = (P.find? fun e => decide (e.st = s)).map encD := by
  induction P with
  | nil => rfl
  | cons d P ih =>
    show dgetE _ ((encS d.st, encD d) :: dO P) = _
    unfold dgetE
    rw [List.find?_cons]
    by_cases h : d.st = s
    · subst h; simp
    · rw [if_neg (fun z => h (keyD_encS z)), decide_eq_false h, ih]
theorem find_st {P : List Deed} (hS : Srt P) {d : Deed} (h : d ∈ P) : P.find? (fun e => decide (e.st = d.st)) = some d := by
  cases q : P.find? (fun e => decide (e.st = d.st)) with
  | none =>
    have := List.find?_eq_none.mp q d h
    simp at this
  | some e =>
    have h1 := List.mem_of_find?_eq_some q
    have h2 := List.find?_some q
    rw [st_inj hS h1 h (of_decide_eq_true h2)]
theorem dO_has {P : List Deed} {s : Stp} : (dgetE (keyD (encS s)) (dO P)).isSome = P.any fun e => decide (e.st = s) := by
  rw [dO_get, Option.isSome_map]
  induction P with
  | nil => rfl
  | cons x P ih =>
    rw [List.find?_cons, List.any_cons]
    cases decide (x.st = s)
    · rw [ih]; rfl
    · rfl
/-! dict([(deed[1], x) ..]) of deeds -/
theorem keysS (l : List (Stp × D)) : ∃ K : List Stp, (dictS l).map (·.1) = K.map encS ∧ K.Nodup ∧ ∀ s, s ∈ K ↔ s ∈ l.map (·.1) := by
  have go : ∀ (l : List (Stp × D)) (es : List (D × D)) (K : List Stp), es.map (·.1) = K.map encS → K.Nodup → ∃ K' : List Stp, (putAll (l.map fun p => (encS p.1, p.2)) es).map (·.1) = K'.map encS ∧ K'.Nodup ∧ ∀ s, s ∈ K' ↔ s ∈ K ∨ s ∈ l.map (·.1) := by
    intro l
    induction l with
    | nil => intro es K h1 h2; exact ⟨K, h1, h2, fun s => by simp⟩
    | cons p l ih =>
      intro es K h1 h2
      by_cases hp : p.1 ∈ K
      · have e1 : (dputE (encS p.1) p.2 es).map (·.1) = K.map encS := by
          rw [← h1]
          have hk : keyD (encS p.1) ∈ keysE es := by
            have : encS p.1 ∈ es.map (·.1) := by rw [h1]; exact List.mem_map.mpr ⟨_, hp, rfl⟩
            obtain ⟨x, hx, ex⟩ := List.mem_map.mp this
            exact List.mem_map.mpr ⟨x, hx, by rw [ex]⟩
          clear h1 h2 ih hp
          induction es with
          | nil => cases hk
          | cons x es ih2 =>
            unfold dputE
            by_cases hx : keyD x.1 = keyD (encS p.1)
            · rw [if_pos hx]; rfl
            · rw [if_neg hx, List.map_cons, ih2, List.map_cons]
              rcases List.mem_cons.mp hk with a | a
              · exact (hx a.symm).elim
              · exact a
        obtain ⟨K', k1, k2, k3⟩ := ih (dputE (encS p.1) p.2 es) K e1 h2
        refine ⟨K', k1, k2, fun s => ?_⟩
        rw [k3, List.map_cons, List.mem_cons]
        constructor
        · rintro (a | a)
          · exact .inl a
          · exact .inr (.inr a)
        · rintro (a | a | a)
          · exact .inl a
          · subst a; exact .inl hp
          · exact .inr a
      · have e1 : (dputE (encS p.1) p.2 es).map (·.1) = (K ++ [p.1]).map encS := by
          rw [dput_new, List.map_append, h1, List.map_append]
          · rfl
          · intro z
            obtain ⟨x, hx, ex⟩ := List.mem_map.mp z
            have : x.1 ∈ K.map encS := by rw [← h1]; exact List.mem_map.mpr ⟨x, hx, rfl⟩
            obtain ⟨t, ht, et⟩ := List.mem_map.mp this
            rw [← et] at ex
            exact hp (keyD_encS ex ▸ ht)
        obtain ⟨K', k1, k2, k3⟩ := ih (dputE (encS p.1) p.2 es) (K ++ [p.1]) e1 (by
          rw [List.nodup_append]
          exact ⟨h2, by simp, fun a ha b hb z => hp (by rw [List.mem_singleton.mp hb] at z; exact z ▸ ha)⟩)
        refine ⟨K', k1, k2, fun s => ?_⟩
        rw [k3, List.map_cons, List.mem_cons, List.mem_append, List.mem_singleton]
        constructor
        · rintro ((a | a) | a)
          · exact .inl a
          · exact .inr (.inl a)
          · exact .inr (.inr a)
        · rintro (a | a | a)
          · exact .inl (.inl a)
          · exact .inl (.inr a)
          · exact .inr a
  obtain ⟨K, h1, h2, h3⟩ := go l [] [] rfl .nil
  exact ⟨K, h1, h2, fun s => by rw [h3]; simp⟩
theorem sort_keys {l : List (Stp × D)} {J : List Deed} (hJ : Srt J) (hm : ∀ s, s ∈ J.map (·.st) ↔ s ∈ l.map (·.1)) : ∃ K : List Stp, (dictS l).map (·.1) = K.map encS ∧ sortS K = J.map (·.st) := by
  obtain ⟨K, h1, h2, h3⟩ := keysS l
  refine ⟨K, h1, sortS_eq ?_ ?_⟩
  · have nd : (J.map (·.st)).Nodup := by
      unfold List.Nodup
      rw [List.pairwise_map]
      exact hJ.imp fun h z => by rw [z, ltS_irr] at h; cases h
    exact (List.perm_ext_iff_of_nodup nd h2).mpr fun s => by rw [hm, h3]
  · rw [List.pairwise_map]
    exact hJ.imp fun h => ltS_asym h
theorem fd_deed {Ds : List Deed} {f : Deed → D} {d : Deed} (hd : d ∈ Ds) (hu : ∀ e ∈ Ds, e.st = d.st → e = d) : fdAll (Ds.map fun d => (d.st, f d)) d.st = some (f d) := by
  unfold fdAll
  have go : ∀ (Ds : List Deed) (a : Option D), (∀ e ∈ Ds, e.st = d.st → e = d) → (d ∈ Ds ∨ a = some (f d)) → (Ds.map fun d => (d.st, f d)).foldl (fun acc p => if p.1 = d.st then some p.2 else acc) a = some (f d) := by
    intro Ds
    induction Ds with
    | nil => intro a _ h; rcases h with h | h; cases h; exact h
    | cons x Ds ih =>
      intro a hu h
      rw [List.map_cons, List.foldl_cons]
      refine ih _ (fun e he => hu e (List.mem_cons_of_mem _ he)) ?_
      by_cases hx : x.st = d.st
      · rw [if_pos hx, hu x List.mem_cons_self hx]; exact .inr rfl
      · rw [if_neg hx]
        rcases h with h | h
        · rcases List.mem_cons.mp h with a | a
          · subst a; exact (hx rfl).elim
          · exact .inl a
        · exact .inr h
  exact go Ds none hu (.inl hd)
theorem fd_has {Ds : List Deed} {f : Deed → D} {s : Stp} : (fdAll (Ds.map fun d => (d.st, f d)) s).isSome = Ds.any fun e => decide (e.st = s) := by
  unfold fdAll
  have go : ∀ (Ds : List Deed) (a : Option D), ((Ds.map fun d => (d.st, f d)).foldl (fun acc p => if p.1 = s then some p.2 else acc) a).isSome = (a.isSome || Ds.any fun e => decide (e.st = s)) := by
    intro Ds
    induction Ds with
    | nil => intro a; simp
    | cons x Ds ih =>
      intro a
      rw [List.map_cons, List.foldl_cons, ih, List.any_cons]
      by_cases hx : x.st = s
      · simp [hx]
      · simp [hx]
  rw [go]
  rfl
theorem encD_form (d : Deed) : ∃ w r, encD d = .tup (w :: encS d.st :: r) := by
  cases d <;> exact ⟨_, _, rfl⟩
theorem eqD_st {e d : Deed} (h : eqD (encD e) (encD d) = true) : e.st = d.st := by
  obtain ⟨w, r, e1⟩ := encD_form e
  obtain ⟨w', r', e2⟩ := encD_form d
  rw [e1, e2] at h
  have h : (eqP (toP w) (toP w') && (eqD (encS e.st) (encS d.st) && eqPs (toPs r) (toPs r'))) = true := h
  rw [Bool.and_eq_true, Bool.and_eq_true, eqD_encS] at h
  exact of_decide_eq_true h.2.1
def inB (P : List Deed) (d : Deed) : Bool := (P.map encD).any fun q => eqD q (encD d)
theorem inB_mem {L P : List Deed} (hS : Srt L) (hs : ∀ e ∈ P, e ∈ L) {d : Deed} (hd : d ∈ L) : inB P d = true ↔ d ∈ P := by
  unfold inB
  rw [List.any_eq_true]
  constructor
  · rintro ⟨q, hq, h⟩
    obtain ⟨e, he, rfl⟩ := List.mem_map.mp hq
    rw [← st_inj hS (hs e he) hd (eqD_st h)]
    exact he
  · intro h
    exact ⟨_, List.mem_map.mpr ⟨d, h, rfl⟩, eqP_self _⟩
theorem anySt_mem {L P : List Deed} (hS : Srt L) (hs : ∀ e ∈ P, e ∈ L) {d : Deed} (hd : d ∈ L) : (P.any fun e => decide (e.st = d.st)) = true ↔ d ∈ P := by
  rw [List.any_eq_true]
  constructor
  · rintro ⟨e, he, h⟩
    rw [← st_inj hS (hs e he) hd (of_decide_eq_true h)]
    exact he
  · intro h
    exact ⟨d, h, decide_eq_true rfl⟩
theorem eqB {a b : Bool} (h : a = true ↔ b = true) : a = b := by
  cases a <;> cases b <;> simp at h <;> rfl
def lackO (P : List Deed) : Option Stp → Bool
  | none => false
  | some s => !(P.any fun e => decide (e.st = s))
theorem lack_cl {P : List Deed} {d : Deed} (h : (spD d).filter (lackO P) = []) : Cl P d := by
  intro s hs
  have := List.filter_eq_nil_iff.mp h (some s) hs
  simp only [lackO, Bool.not_eq_true', Bool.not_eq_false, List.any_eq_true, decide_eq_true_eq] at this
  exact this
theorem cl_lack {P : List Deed} {d : Deed} (h : Cl P d) : (spD d).filter (lackO P) = [] := by
  rw [List.filter_eq_nil_iff]
  intro o ho
  cases o with
  | none => simp [lackO]
  | some s =>
    obtain ⟨e, he, q⟩ := h s ho
    simp only [lackO, Bool.not_eq_true', Bool.not_eq_false, List.any_eq_true, decide_eq_true_eq]
    exact ⟨e, he, q⟩
theorem sortS_st {P : List Deed} (h : Srt P) : sortS (P.map (·.st)) = P.map (·.st) := sortS_eq (List.Perm.refl _) (List.pairwise_map.mpr (h.imp fun h => ltS_asym h))
theorem flats_encO (l : List (Option Stp)) : flats (l.map encO) = true := by
  induction l with
  | nil => rfl
  | cons o l ih => show (flat (encO o) && flats (l.map encO)) = true; rw [flat_encO, ih]; rfl
theorem dps_encO (l : List (Option Stp)) : dpPs (toPs (l.map encO)) ≤ 1 := by
  induction l with
  | nil => exact Nat.zero_le _
  | cons o l ih =>
    show max (dpP (toP (encO o))) (dpPs (toPs (l.map encO))) ≤ 1
    have := dp_encO o
    omega
end M

/-! Mathematics 10: things, papers -/
namespace DD
open PySem PySem.Spec PyProof.Rows L2 SeqAt
theorem ord_gt (p q : Stp) : ordD .gt (encS p) (encS q) = some (ltS q p) := by
  obtain ⟨a, x⟩ := p
  obtain ⟨b, y⟩ := q
  have e : ordD .gt (encS (a, x)) (encS (b, y)) = some (if eqP (.num a) (.num b) = true then (if eqP (.text x) (.text y) = true then decide ((0:Nat) > 0) else decide (y.cps.toList < x.cps.toList)) else decide (b < a)) := rfl
  rw [e]
  unfold ltS
  congr 1
  by_cases h : a = b
  · subst h
    have e1 : eqP (.num a) (.num a) = true := eqP_self _
    rw [if_pos e1, if_pos rfl]
    by_cases h2 : x = y
    · subst h2
      have e2 : eqP (.text x) (.text x) = true := eqP_self _
      rw [if_pos e2]
      have : ¬ x.cps.toList < x.cps.toList := List.lt_irrefl _
      simp [this]
    · have e2 : ¬ eqP (.text x) (.text y) = true := by
        intro z
        have : (x == y) = true := z
        exact h2 (by simpa using this)
      rw [if_neg e2]
  · have e1 : ¬ eqP (.num a) (.num b) = true := by
      intro z
      have : (a == b) = true := z
      exact h (by simpa using this)
    rw [if_neg e1, if_neg (fun z => h z.symm)]
theorem rGt_encS {a b : Stp} {G : DG} {Q : DK} : rOrd .gt (encS a) (encS b) G Q = Q (.bl (ltS b a)) G := by
  unfold rOrd
  rw [ord_gt, ob_some]
  exact propext ⟨fun q => q.2, fun q => ⟨⟨rfl, rfl, by show max 0 (max 0 0) + 1 ≤ 60; omega⟩, q⟩⟩
/-- a thing: truths, whole numbers, texts, None, tuples of such, lists of what holds no lists -/
def Th (G : DG) : Nat → D → Prop
  | 0, _ => False
  | n + 1, d => match d with
    | .non => True
    | .bl _ => True
    | .int _ => True
    | .str _ => True
    | .tup ds => ∀ x ∈ ds, Th G n x
    | .ref a => ∃ ds, G a = some (.lst ds) ∧ flats ds = true ∧ dpPs (toPs ds) ≤ 20
    | _ => False
theorem Th.sub {G G' : DG} (s : Sub G G') : ∀ {n : Nat} {d : D}, Th G n d → Th G' n d
  | 0, _, h => h.elim
  | n + 1, d, h => by
    cases d with
    | tup ds => exact fun x hx => Th.sub s (h x hx)
    | ref a => obtain ⟨ds, h1, h2⟩ := h; exact ⟨ds, s _ _ h1, h2⟩
    | scr ds => exact h.elim
    | ty n => exact h.elim
    | _ => trivial
theorem ress_all {G : DG} : ∀ {ds : List D}, (∀ x ∈ ds, ∃ p, res G x = some p) → ∃ ps, ress G ds = some ps
  | [], _ => ⟨[], rfl⟩
  | d :: ds, h => by
    obtain ⟨p, hp⟩ := h d List.mem_cons_self
    obtain ⟨ps, hps⟩ := ress_all (ds := ds) fun x hx => h x (List.mem_cons_of_mem _ hx)
    refine ⟨p :: ps, ?_⟩
    rw [ress, hp]
    show (ress G ds).map (p :: ·) = _
    rw [hps]
    rfl
theorem Th.res {G : DG} : ∀ {n : Nat} {d : D}, Th G n d → ∃ p, DD.res G d = some p
  | 0, _, h => h.elim
  | n + 1, d, h => by
    cases d with
    | tup ds =>
      obtain ⟨ps, hp⟩ := ress_all fun x hx => Th.res (h x hx)
      exact ⟨.tup ps, by rw [DD.res, hp]; rfl⟩
    | ref a =>
      obtain ⟨ds, h1, h2, _⟩ := h
      exact ⟨.lst (toPs ds), by rw [DD.res, h1]; simp [h2]⟩
    | scr ds => exact h.elim
    | ty n => exact h.elim
    | non => exact ⟨_, rfl⟩
    | bl b => exact ⟨_, rfl⟩
    | int i => exact ⟨_, rfl⟩
    | str x => exact ⟨_, rfl⟩
theorem ress_cg {G G' : DG} : ∀ {ds : List D}, (∀ x ∈ ds, DD.res G' x = DD.res G x) → ress G' ds = ress G ds
  | [], _ => rfl
  | d :: ds, h => by rw [ress, ress, h d List.mem_cons_self, ress_cg fun x hx => h x (List.mem_cons_of_mem _ hx)]
theorem dp_mem : ∀ {ds : List D} {x : D}, x ∈ ds → dpP (toP x) ≤ dpPs (toPs ds)
  | y :: ds, x, h => by
    show _ ≤ max (dpP (toP y)) (dpPs (toPs ds))
    rcases List.mem_cons.mp h with e | e
    · subst e; omega
    · have := dp_mem e; omega
theorem flat_mem : ∀ {ds : List D} {x : D}, x ∈ ds → flats ds = true → flat x = true
  | y :: ds, x, h, f => by
    have f : (flat y && flats ds) = true := f
    rw [Bool.and_eq_true] at f
    rcases List.mem_cons.mp h with e | e
    · subst e; exact f.1
    · exact flat_mem e f.2
/-- == of a thing and a value -/
def eqG (G : DG) (x e : D) : Bool := match DD.res G x with
  | some p => eqP p (toP e)
  | none => false
theorem eqG_sub {G G' : DG} (s : Sub G G') {n : Nat} {x : D} (h : Th G n x) (e : D) : eqG G' x e = eqG G x e := by
  obtain ⟨p, hp⟩ := h.res
  have go : ∀ {n : Nat} {x : D}, Th G n x → DD.res G' x = DD.res G x := by
    intro n
    induction n with
    | zero => intro x h; exact h.elim
    | succ n ih =>
      intro x h
      cases x with
      | tup ds =>
        have h : ∀ x ∈ ds, Th G n x := h
        have e : ress G' ds = ress G ds := by
          exact ress_cg fun x hx => ih (h x hx)
        rw [DD.res, DD.res, e]
      | ref a =>
        obtain ⟨ds, h1, h2, _⟩ := h
        rw [DD.res, DD.res, h1, s _ _ h1]
      | scr ds => exact h.elim
      | ty n => exact h.elim
      | non => rfl
      | bl b => rfl
      | int i => rfl
      | str x => rfl
  unfold eqG
  rw [go h]
theorem rEq_th {G : DG} {n : Nat} {x e : D} {Q : DK} (h : Th G n x) (f : flat e = true) (hd : dpP (toP e) ≤ 60) : DD.rEq x e G Q = Q (.bl (eqG G x e)) G := by
  obtain ⟨p, hp⟩ := h.res
  unfold DD.rEq eqG
  rw [hp, res_flat f]
  exact propext ⟨fun q => q.2, fun q => ⟨.inr hd, q⟩⟩
theorem rNe_th {G : DG} {n : Nat} {x e : D} {Q : DK} (h : Th G n x) (f : flat e = true) (hd : dpP (toP e) ≤ 60) : DD.rNe x e G Q = Q (.bl (!eqG G x e)) G := by
  obtain ⟨p, hp⟩ := h.res
  unfold DD.rNe eqG
  rw [hp, res_flat f]
  exact propext ⟨fun q => q.2, fun q => ⟨.inr hd, q⟩⟩
mutual
theorem eqP_comm : ∀ a b : Pd, eqP a b = eqP b a
  | .none, b => by cases b <;> rfl
  | .num i, b => by cases b <;> first | rfl | (show (_ == _) = (_ == _); rw [Bool.eq_iff_iff, beq_iff_eq, beq_iff_eq]; exact eq_comm)
  | .text x, b => by cases b <;> first | rfl | (show (_ == _) = (_ == _); rw [Bool.eq_iff_iff, beq_iff_eq, beq_iff_eq]; exact eq_comm)
  | .tup xs, b => by
    cases b with
    | tup ys => exact eqPs_comm xs ys
    | _ => rfl
  | .lst xs, b => by
    cases b with
    | lst ys => exact eqPs_comm xs ys
    | _ => rfl
theorem eqPs_comm : ∀ a b : List Pd, eqPs a b = eqPs b a
  | [], b => by cases b <;> rfl
  | x :: xs, [] => rfl
  | x :: xs, y :: ys => by
    show (eqP x y && eqPs xs ys) = (eqP y x && eqPs ys xs)
    rw [eqP_comm x y, eqPs_comm xs ys]
end
theorem rEq_ht {G : DG} {n : Nat} {x e : D} {Q : DK} (h : Th G n x) (f : flat e = true) (hd : dpP (toP e) ≤ 60) : DD.rEq e x G Q = Q (.bl (eqG G x e)) G := by
  obtain ⟨p, hp⟩ := h.res
  unfold DD.rEq eqG
  rw [hp, res_flat f]
  dsimp only
  rw [eqP_comm p]
  exact propext ⟨fun q => q.2, fun q => ⟨.inl hd, q⟩⟩
def isTupD : D → Bool
  | .tup _ => true
  | _ => false
theorem isi_th {G : DG} {n : Nat} {x : D} {Q : DK} (h : Th G n x) : DD.rIsi [x, .ty "tuple"] G Q = Q (.bl (isTupD x)) G := by
  cases n with
  | zero => exact h.elim
  | succ n =>
    cases x with
    | ref a =>
      obtain ⟨ds, h1, _⟩ := h
      exact rIsi_of (by decide) (by show (match G a with | some (.lst _) => some ("tuple" == "list") | _ => none) = _; rw [h1]; rfl)
    | scr ds => exact h.elim
    | ty n => exact h.elim
    | non => exact isi_tuple_non
    | bl b => exact isi_tuple_bl
    | int i => exact isi_tuple_int
    | str x => exact isi_tuple_str
    | tup xs => exact isi_tuple_tup
theorem flat_th {G : DG} : ∀ {n : Nat} {d : D}, dpP (toP d) < n → flat d = true → Th G n d := by
  intro n
  induction n with
  | zero => intro d h; omega
  | succ n ih =>
    intro d h f
    cases d with
    | tup ds =>
      intro x hx
      have h : dpPs (toPs ds) + 1 < n + 1 := h
      have f : flats ds = true := f
      have := dp_mem hx
      exact ih (by omega) (flat_mem hx f)
    | ref a => cases f
    | scr ds => cases f
    | ty n => cases f
    | _ => trivial
end DD
namespace M
open PySem DD PyProof.Rows L2
/-! papers -/
def toldO (L : List Deed) (b : Bool) (s : Stp) : Option Stp := (tell L b s).map (·.st)
theorem tolds_enc (L : List Deed) (b : Bool) (s : Stp) : tolds L b s = encO (toldO L b s) := by
  unfold tolds toldO
  cases tell L b s <;> rfl
/-- the later marks, rising -/
def latD (L : List Deed) (b : Bool) (o : Option Stp) : List Deed := L.filter fun d => isMk b d && (match o with | none => true | some m => ltS m d.st)
theorem latD_srt {L : List Deed} (h : Srt L) (b : Bool) (o : Option Stp) : Srt (latD L b o) := h.sublist List.filter_sublist
def why (L : List Deed) (o : Stp) : D := .str (if counts L o = true then "apart" else "off")
def paperD (L : List Deed) (b : Bool) (s : Stp) : D := .tup [encO (toldO L b s), .tup ((latD L b (toldO L b s)).map fun d => .tup [encS d.st, why L d.st])]
/-- a row says rightly why -/
def rowM (G : DG) (c v : Bool) (o : Stp) (x : D) : Bool := match x with
  | .tup [y, z] => eqG G y (encS o) && (if eqG G z (.str "off") = true then !c else eqG G z (.str "apart") && !v)
  | _ => false
def rowsM (G : DG) (L : List Deed) (s : Stp) (ms : List Deed) (rows : List D) : Bool := decide (rows.length = ms.length) && (ms.zip rows).all fun p => rowM G (counts L p.1.st) (covD L s p.1) p.1.st p.2
def papM (G : DG) (L : List Deed) (b : Bool) (s : Stp) (x : D) : Bool := match x with
  | .tup [.non, .tup rows] => rowsM G L s (latD L b none) rows
  | .tup [y, .tup rows] => (match (mks L b).find? fun d => eqG G y (encS d.st) with
    | none => false
    | some m => counts L m.st && covD L s m && rowsM G L s (latD L b (some m.st)) rows)
  | _ => false
end M

/-! Mathematics 11: papers that are told; deeds put to others -/
namespace M
open PySem DD PyProof.Rows L2
theorem tell_props {L : List Deed} {b : Bool} {s : Stp} {t : Deed} (h : tell L b s = some t) : t ∈ L ∧ isMk b t = true ∧ covD L s t = true ∧ counts L t.st = true := by
  have h1 := List.mem_of_find?_eq_some h
  have h2 := List.find?_some h
  simp only [Bool.and_eq_true] at h2
  exact ⟨List.mem_reverse.mp h1, h2.1, h2.2.1, h2.2.2⟩
theorem tell_none {L : List Deed} {b : Bool} {s : Stp} (h : tell L b s = none) {m : Deed} (hm : m ∈ L) (hb : isMk b m = true) (hc : counts L m.st = true) : covD L s m = false := by
  have := List.find?_eq_none.mp h m (List.mem_reverse.mpr hm)
  cases hv : covD L s m with
  | false => rfl
  | true => rw [hb, hv, hc] at this; exact (this rfl).elim
theorem tell_max {L : List Deed} (hS : Srt L) {b : Bool} {s : Stp} {t : Deed} (h : tell L b s = some t) {m : Deed} (hm : m ∈ L) (hb : isMk b m = true) (hc : counts L m.st = true) (hl : ltS t.st m.st = true) : covD L s m = false := by
  cases hv : covD L s m with
  | false => rfl
  | true =>
    exfalso
    unfold tell at h
    rw [List.find?_eq_some_iff_append] at h
    obtain ⟨_, as, bs, e, hno⟩ := h
    have hm' : m ∈ L.reverse := List.mem_reverse.mpr hm
    have hR : L.reverse.Pairwise fun a b => ltS b.st a.st = true := List.pairwise_reverse.mpr hS
    rw [e] at hm' hR
    rcases List.mem_append.mp hm' with a | a
    · have := hno m a
      rw [hb, hv, hc] at this
      cases this
    · rcases List.mem_cons.mp a with a | a
      · rw [a, ltS_irr] at hl; cases hl
      · have h2 := (List.pairwise_append.mp hR).2.1
        have := (List.pairwise_cons.mp h2).1 m a
        rw [ltS_asym this] at hl
        cases hl
theorem eqG_flat {G : DG} {x e : D} (f : flat x = true) : eqG G x e = eqD x e := by
  unfold eqG
  rw [res_flat f]
  rfl
theorem all_zip_map {α β : Type} {f : α → β} {p : α × β → Bool} : ∀ {l : List α}, (∀ a ∈ l, p (a, f a) = true) → (l.zip (l.map f)).all p = true
  | [], _ => rfl
  | a :: l, h => by
    rw [List.map_cons, List.zip_cons_cons, List.all_cons, h a List.mem_cons_self, all_zip_map fun x hx => h x (List.mem_cons_of_mem _ hx)]
    rfl
/-- a paper that is told is one -/
theorem papM_paper {L : List Deed} (hS : Srt L) (G : DG) (b : Bool) (s : Stp) : papM G L b s (paperD L b s) = true := by
  have rows : ∀ o : Option Stp, (∀ m ∈ latD L b o, counts L m.st = true → covD L s m = false) → rowsM G L s (latD L b o) ((latD L b o).map fun d => .tup [encS d.st, why L d.st]) = true := by
    intro o h
    unfold rowsM
    rw [List.length_map, decide_eq_true rfl, Bool.true_and]
    refine all_zip_map fun m hm => ?_
    show rowM G (counts L m.st) (covD L s m) m.st (.tup [encS m.st, why L m.st]) = true
    dsimp only [rowM]
    rw [eqG_flat rfl, eqD_encS, decide_eq_true rfl, Bool.true_and]
    unfold why
    cases hc : counts L m.st with
    | true =>
      rw [h m hm hc, eqG_flat rfl, eqG_flat rfl]
      have e1 : eqD (.str (if true = true then "apart" else "off")) (.str "off") = false := by decide +kernel
      have e2 : eqD (.str (if true = true then "apart" else "off")) (.str "apart") = true := by decide +kernel
      rw [e1, e2]
      rfl
    | false =>
      rw [eqG_flat rfl]
      have e1 : eqD (.str (if false = true then "apart" else "off")) (.str "off") = true := by decide +kernel
      rw [e1]
      rfl
  unfold paperD
  cases ht : tell L b s with
  | none =>
    have e : toldO L b s = none := by unfold toldO; rw [ht]; rfl
    rw [e]
    refine rows none fun m hm hc => ?_
    obtain ⟨h1, h2⟩ := List.mem_filter.mp hm
    rw [Bool.and_eq_true] at h2
    exact tell_none ht h1 h2.1 hc
  | some t =>
    have e : toldO L b s = some t.st := by unfold toldO; rw [ht]; rfl
    obtain ⟨t1, t2, t3, t4⟩ := tell_props ht
    rw [e]
    have hf : (mks L b).find? (fun d => eqG G (encS t.st) (encS d.st)) = some t := by
      have e2 : (fun d : Deed => eqG G (encS t.st) (encS d.st)) = fun d => decide (t.st = d.st) := by
        funext d
        rw [eqG_flat rfl, eqD_encS]
      rw [e2]
      have tm : t ∈ mks L b := List.mem_reverse.mpr (List.mem_filter.mpr ⟨t1, t2⟩)
      cases q : (mks L b).find? fun d => decide (t.st = d.st) with
      | none =>
        have := List.find?_eq_none.mp q t tm
        simp at this
      | some d =>
        have h1 := List.mem_of_find?_eq_some q
        have h2 := List.find?_some q
        obtain ⟨h3, _⟩ := List.mem_filter.mp (List.mem_reverse.mp h1)
        rw [st_inj hS t1 h3 (of_decide_eq_true h2)]
    show (match (mks L b).find? fun d => eqG G (encS t.st) (encS d.st) with
      | none => false
      | some m => counts L m.st && covD L s m && rowsM G L s (latD L b (some m.st)) ((latD L b (some t.st)).map fun d => .tup [encS d.st, why L d.st])) = true
    rw [hf]
    dsimp only
    rw [t3, t4, rows (some t.st) fun m hm hc => ?_]
    · rfl
    · obtain ⟨h1, h2⟩ := List.mem_filter.mp hm
      rw [Bool.and_eq_true] at h2
      exact tell_max hS ht h1 h2.1 hc h2.2
theorem flat_paper (L : List Deed) (b : Bool) (s : Stp) : flat (paperD L b s) = true := by
  unfold paperD
  show (flat (encO _) && (flats _ && true)) = true
  rw [flat_encO]
  have : ∀ l : List Deed, flats (l.map fun d => D.tup [encS d.st, why L d.st]) = true := by
    intro l
    induction l with
    | nil => rfl
    | cons d l ih => show (flat (D.tup [encS d.st, why L d.st]) && flats _) = true; rw [ih]; rfl
  rw [this]
  rfl
theorem dp_paper (L : List Deed) (b : Bool) (s : Stp) : dpP (toP (paperD L b s)) ≤ 4 := by
  unfold paperD
  show max (dpP (toP (encO _))) (max (dpPs (toPs _) + 1) 0) + 1 ≤ 4
  have h1 := dp_encO (toldO L b s)
  have h2 : ∀ l : List Deed, dpPs (toPs (l.map fun d => D.tup [encS d.st, why L d.st])) ≤ 2 := by
    intro l
    induction l with
    | nil => exact Nat.zero_le _
    | cons d l ih =>
      show max (dpP (toP (D.tup [encS d.st, why L d.st]))) (dpPs (toPs (l.map fun d => D.tup [encS d.st, why L d.st]))) ≤ 2
      have : dpP (toP (D.tup [encS d.st, why L d.st])) = 2 := rfl
      omega
  have h3 := h2 (latD L b (toldO L b s))
  omega
theorem th_paper (G : DG) (L : List Deed) (b : Bool) (s : Stp) : Th G 5 (paperD L b s) := flat_th (by have := dp_paper L b s; omega) (flat_paper L b s)
/-! ### deeds put to others: no letters, no cuts, no switches of these -/
structure Ext (L X : List Deed) : Prop where
  nw : ∀ d ∈ X, d.isW = none
  nc : ∀ d ∈ X, ∀ g, cutOf g d = none
  sw : ∀ d ∈ X, ∀ e ∈ L, swOf e.st d = none
theorem ord_nw {L : List Deed} : ∀ {X : List Deed}, (∀ d ∈ X, d.isW = none) → ordI (L ++ X) = ordI L := by
  intro X
  induction X generalizing L with
  | nil => intro _; rw [List.append_nil]
  | cons d X ih =>
    intro h
    have e : L ++ d :: X = (L ++ [d]) ++ X := by simp
    rw [e, ih fun x hx => h x (List.mem_cons_of_mem _ hx), ordI_snoc]
    have := h d List.mem_cons_self
    cases d with
    | write s a c => cases this
    | _ => rfl
theorem fm_nil {α β : Type} {f : α → Option β} {l : List α} (h : ∀ a ∈ l, f a = none) : l.filterMap f = [] := List.filterMap_eq_nil_iff.mpr h
theorem cov_of_ord {L L' : List Deed} (h : ordI L' = ordI L) (s : Stp) (d : Deed) : covD L' s d = covD L s d := by
  unfold covD cov plc
  rw [h]
theorem counts_app {L X : List Deed} {g : Stp} (h : ∀ d ∈ X, swOf g d = none) : counts (L ++ X) g = counts L g := by
  unfold counts sws
  rw [List.filterMap_append, fm_nil h, List.append_nil]
theorem counts_new {L X : List Deed} (hW : Wf L) {g : Stp} (h : ∀ e ∈ L, e.st ≠ g) : counts (L ++ X) g = counts X g := by
  unfold counts sws
  rw [List.filterMap_append, fm_nil fun d hd => ?_, List.nil_append]
  cases d with
  | sw on t g' =>
    unfold swOf
    by_cases z : g' = g
    · obtain ⟨e, he, q⟩ := hW.speaks hd g' List.mem_cons_self
      exact (h e he (q.trans z)).elim
    · simp only [if_neg z]
  | _ => rfl
section
variable {L X : List Deed} (E : Ext L X)
include E
theorem Ext.ord : ordI (L ++ X) = ordI L := ord_nw E.nw
theorem Ext.cuts (g : Stp) : cuts (L ++ X) g = cuts L g := by
  unfold M.cuts
  rw [List.filterMap_append, fm_nil fun d hd => E.nc d hd g, List.append_nil]
theorem Ext.counts {e : Deed} (he : e ∈ L) : M.counts (L ++ X) e.st = M.counts L e.st := counts_app fun d hd => E.sw d hd e he
theorem Ext.shown {s : Stp} (hs : s ∈ lets L) : M.shown (L ++ X) s = M.shown L s := by
  obtain ⟨d, hd, e⟩ := mem_lets hs
  unfold M.shown
  rw [E.cuts, ← e, E.counts hd]
  congr 3
  refine List.map_congr_left fun c hc => ?_
  obtain ⟨x, hx, ex⟩ := List.mem_filterMap.mp hc
  have : x.st = c := by
    cases x with
    | cut t g =>
      simp only [cutOf] at ex
      split at ex
      · cases ex; rfl
      · cases ex
    | _ => cases ex
  rw [← this]
  exact E.counts hx
theorem Ext.shownL (hW : Wf L) : M.shownL (L ++ X) = M.shownL L := by
  unfold M.shownL
  rw [E.ord]
  exact List.filter_congr fun s hs => E.shown ((ordI_ok hW).2.1 s hs)
theorem Ext.ltr (s : Stp) : ltrD (L ++ X) s = ltrD L s := by
  unfold ltrD
  have : wrs (L ++ X) = wrs L := by
    unfold wrs
    have e : X.filterMap wrOf = [] := fm_nil fun d hd => by
      have := E.nw d hd
      cases d with
      | write s a c => cases this
      | _ => rfl
    rw [List.filterMap_append, e, List.append_nil]
  rw [this]
omit E in
theorem find_cg {α : Type} {p q : α → Bool} : ∀ {l : List α}, (∀ a ∈ l, p a = q a) → l.find? p = l.find? q
  | [], _ => rfl
  | a :: l, h => by
    rw [List.find?_cons, List.find?_cons, h a List.mem_cons_self, find_cg fun x hx => h x (List.mem_cons_of_mem _ hx)]
omit E in
theorem tell_app {L X : List Deed} (hc : ∀ e ∈ L, M.counts (L ++ X) e.st = M.counts L e.st) (ho : ∀ d s, covD (L ++ X) s d = covD L s d) (b : Bool) (s : Stp) :
    tell (L ++ X) b s = (X.reverse.find? fun d => isMk b d && (covD L s d && M.counts (L ++ X) d.st)).or (tell L b s) := by
  unfold tell
  rw [List.reverse_append, List.find?_append]
  congr 1
  · exact find_cg fun d _ => by rw [ho]
  · exact find_cg fun d hd => by rw [ho, hc d (List.mem_reverse.mp hd)]
theorem Ext.tell (b : Bool) (s : Stp) : M.tell (L ++ X) b s = (X.reverse.find? fun d => isMk b d && (covD L s d && M.counts (L ++ X) d.st)).or (M.tell L b s) :=
  tell_app (fun e he => E.counts he) (fun d s => cov_of_ord E.ord s d) b s
end
theorem spans_cg {L L' : List Deed} (h1 : shownL L' = shownL L) (h2 : ∀ s ∈ shownL L, ltrD L' s = ltrD L s ∧ vv L' s = vv L s) : spansM L' = spansM L := by
  unfold spansM
  rw [h1]
  generalize ([] : List (Str × Val × Val)) = a
  generalize shownL L = l at h2
  induction l generalizing a with
  | nil => rfl
  | cons s l ih =>
    obtain ⟨e1, e2⟩ := h2 s List.mem_cons_self
    rw [List.foldl_cons, List.foldl_cons, e1, e2]
    exact ih _ fun t ht => h2 t (List.mem_cons_of_mem _ ht)
theorem text_cg {L L' : List Deed} (h1 : shownL L' = shownL L) (h2 : ∀ s ∈ shownL L, ltrD L' s = ltrD L s) : textM L' = textM L := by
  unfold textM
  rw [h1, List.map_congr_left h2]
theorem addSp_mem {l : List (Str × Val × Val)} {x : Str} {v : Val × Val} {y : Str × Val × Val} (h : y ∈ addSp l x v) : y ∈ l ∨ y.2 = v := by
  rcases List.eq_nil_or_concat l with e | ⟨l', z, e⟩
  · subst e
    rw [addSp_nil, List.mem_singleton] at h
    exact .inr (by rw [h])
  · rw [List.concat_eq_append] at e
    subst e
    rw [addSp_snoc] at h
    split at h
    · rcases List.mem_append.mp h with a | a
      · exact .inl (List.mem_append_left _ a)
      · exact .inr (by rw [List.mem_singleton.mp a])
    · rcases List.mem_append.mp h with a | a
      · exact .inl a
      · exact .inr (by rw [List.mem_singleton.mp a])
theorem spans_const {L : List Deed} {v : Val × Val} (h : ∀ s ∈ shownL L, vv L s = v) : ∀ x ∈ spansM L, x.2 = v := by
  unfold spansM
  have go : ∀ (ss : List Stp) (l : List (Str × Val × Val)), (∀ s ∈ ss, vv L s = v) → (∀ x ∈ l, x.2 = v) → ∀ x ∈ ss.foldl (fun l s => addSp l (ltrD L s) (vv L s)) l, x.2 = v := by
    intro ss
    induction ss with
    | nil => intro l _ h2; exact h2
    | cons s ss ih =>
      intro l h1 h2
      refine ih _ (fun t ht => h1 t (List.mem_cons_of_mem _ ht)) fun x hx => ?_
      rcases addSp_mem hx with a | a
      · exact h2 x a
      · rw [a, h1 s List.mem_cons_self]
  exact go _ [] h fun _ h => (List.not_mem_nil h).elim
def flatVV (l : List (Str × Val × Val)) : List (Val × Val) := l.flatMap fun y => List.replicate y.1.length y.2
theorem flatVV_add {l : List (Str × Val × Val)} {x : Str} {v : Val × Val} (hx : x.length = 1) : flatVV (addSp l x v) = flatVV l ++ [v] := by
  unfold flatVV
  rcases List.eq_nil_or_concat l with e | ⟨l', z, e⟩
  · subst e
    rw [addSp_nil]
    simp [hx]
  · rw [List.concat_eq_append] at e
    subst e
    rw [addSp_snoc]
    split
    · rename_i q
      have e2 : (z.1 ++ x).length = z.1.length + 1 := by rw [Str.length_append, hx]
      rw [List.flatMap_append, List.flatMap_append]
      simp [e2, List.replicate_succ', q]
    · rw [List.flatMap_append (xs := l' ++ [z])]
      simp [hx]
theorem flatVV_spans {L : List Deed} (hW : Wf L) : flatVV (spansM L) = (shownL L).map (vv L) := by
  unfold spansM
  have go : ∀ (ss : List Stp) (l : List (Str × Val × Val)), (∀ s ∈ ss, (ltrD L s).length = 1) → flatVV (ss.foldl (fun l s => addSp l (ltrD L s) (vv L s)) l) = flatVV l ++ ss.map (vv L) := by
    intro ss
    induction ss with
    | nil => intro l _; simp
    | cons s ss ih =>
      intro l h
      rw [List.foldl_cons, ih _ fun t ht => h t (List.mem_cons_of_mem _ ht), flatVV_add (h s List.mem_cons_self), List.map_cons, List.append_assoc]
      rfl
  rw [go _ [] fun s hs => (ltrD_of hW (shownL_mem hW hs)).2]
  rfl
end M

/-! Mathematics 12: a mark of all letters; a letter behind a mark's last one -/
namespace M
open PySem DD PyProof.Rows L2
theorem lt_num {L : List Deed} {n : Int} (H : ∀ e ∈ L, e.st.1 < n) (x : Str) : ∀ e ∈ L, ltS e.st (n, x) = true := fun e he => ltS_iff.mpr (.inl (H e he))
theorem lt_n {n m : Int} {x y : Str} (h : n < m) : ltS (n, x) (m, y) = true := ltS_iff.mpr (.inl h)
theorem lt_mn (n : Int) : ltS (n, "m") (n, "n") = true := by
  rw [ltS_iff]
  exact .inr ⟨rfl, (by decide +kernel : (Str.ofString "m").cps.toList < (Str.ofString "n").cps.toList)⟩
theorem lt_ab (n : Int) : ltS (n, "a") (n, "b") = true := by
  rw [ltS_iff]
  exact .inr ⟨rfl, (by decide +kernel : (Str.ofString "a").cps.toList < (Str.ofString "b").cps.toList)⟩
theorem ne_mn (n : Int) : ¬ ((n, "m") : Stp) = ((n, "n") : Stp) := fun h => by
  have := lt_mn n
  rw [← h, ltS_irr] at this
  cases this
def mB (n : Int) (f : Stp) (e : Option Stp) : Deed := .mark (n, "m") true f e (.b true)
def mL (n : Int) (f e : Stp) : Deed := .mark (n, "n") false f (some e) (.t "q")
def oF (n : Int) (x : Str) (g : Stp) : Deed := .sw false (n, x) g
def oN (n : Int) (x : Str) (g : Stp) : Deed := .sw true (n, x) g
theorem wf_two {L : List Deed} (hW : Wf L) {n : Int} (H : ∀ e ∈ L, e.st.1 < n) {f g : Stp} {e : Option Stp} (hf : f ∈ lets L) (hg : g ∈ lets L) (he : ∀ s, e = some s → s ∈ lets L) {h : Stp} (hh : h ∈ lets L) : Wf (L ++ [mB n f e, mL n g h]) := by
  have e1 : L ++ [mB n f e, mL n g h] = (L ++ [mB n f e]) ++ [mL n g h] := by simp
  have w1 : Wf (L ++ [mB n f e]) := .snoc hW ⟨hf, he, fun _ => rfl, rfl⟩ (lt_num H "m")
  have hl : lets (L ++ [mB n f e]) = lets L := by rw [lets_snoc]; simp [mB, Deed.isW]
  rw [e1]
  refine .snoc w1 ⟨by rw [hl]; exact hg, fun s q => by cases q; rw [hl]; exact hh, (fun q => by cases q), rfl, (by decide +kernel), (by decide +kernel)⟩ fun x hx => ?_
  rcases List.mem_append.mp hx with a | a
  · exact lt_num H "n" x a
  · rw [List.mem_singleton.mp a]
    exact lt_mn n
theorem oths_two {L : List Deed} {n : Int} {f g h : Stp} {e : Option Stp} : ((n, "m") : Stp) ∈ oths (L ++ [mB n f e, mL n g h]) ∧ ((n, "n") : Stp) ∈ oths (L ++ [mB n f e, mL n g h]) := by
  unfold oths
  rw [List.filterMap_append]
  constructor
  · exact List.mem_append_right _ List.mem_cons_self
  · exact List.mem_append_right _ (List.mem_cons_of_mem _ List.mem_cons_self)
theorem oths_app {L X : List Deed} {s : Stp} (h : s ∈ oths L) : s ∈ oths (L ++ X) := by
  unfold oths
  rw [List.filterMap_append]
  exact List.mem_append_left _ h
/-- a switch put behind -/
theorem wf_sw {L : List Deed} (hW : Wf L) {on : Bool} {s g : Stp} (hg : g ∈ oths L) (h : ∀ e ∈ L, ltS e.st s = true) : Wf (L ++ [.sw on s g]) := .snoc hW (.inr hg) h
section
variable {L : List Deed} {n : Int} {f g h : Stp} {e : Option Stp}
def X1 (n : Int) (f g h : Stp) (e : Option Stp) : List Deed := [mB n f e, mL n g h]
def X2 (n : Int) (f g h : Stp) (e : Option Stp) : List Deed := [mB n f e, mL n g h, oF (n + 1) "a" (n, "m"), oF (n + 1) "b" (n, "n")]
def X3 (n : Int) (f g h : Stp) (e : Option Stp) : List Deed := [mB n f e, mL n g h, oF (n + 1) "a" (n, "m"), oF (n + 1) "b" (n, "n"), oN (n + 1 + 1) "a" (n, "m"), oN (n + 1 + 1 + 1) "a" (n, "n")]
theorem wf_X2 (hW : Wf L) (H : ∀ e ∈ L, e.st.1 < n) (hf : f ∈ lets L) (hg : g ∈ lets L) (he : ∀ s, e = some s → s ∈ lets L) (hh : h ∈ lets L) : Wf (L ++ X2 n f g h e) := by
  have w := wf_two hW H hf hg he hh
  have o := oths_two (L := L) (n := n) (f := f) (g := g) (h := h) (e := e)
  have e2 : L ++ X2 n f g h e = ((L ++ [mB n f e, mL n g h]) ++ [oF (n + 1) "a" (n, "m")]) ++ [oF (n + 1) "b" (n, "n")] := by simp [X2]
  rw [e2]
  refine wf_sw (wf_sw w o.1 fun x hx => ?_) (oths_app o.2) fun x hx => ?_
  · rcases List.mem_append.mp hx with a | a
    · exact ltS_iff.mpr (.inl (by have := H x a; show x.st.1 < n + 1; omega))
    · rcases List.mem_cons.mp a with a | a
      · rw [a]; exact lt_n (by omega)
      · rw [List.mem_singleton.mp a]; exact lt_n (by omega)
  · rcases List.mem_append.mp hx with a | a
    · rcases List.mem_append.mp a with a | a
      · exact ltS_iff.mpr (.inl (by have := H x a; show x.st.1 < n + 1; omega))
      · rcases List.mem_cons.mp a with a | a
        · rw [a]; exact lt_n (by omega)
        · rw [List.mem_singleton.mp a]; exact lt_n (by omega)
    · rw [List.mem_singleton.mp a]; exact lt_ab _
theorem wf_X3 (hW : Wf L) (H : ∀ e ∈ L, e.st.1 < n) (hf : f ∈ lets L) (hg : g ∈ lets L) (he : ∀ s, e = some s → s ∈ lets L) (hh : h ∈ lets L) : Wf (L ++ X3 n f g h e) := by
  have w := wf_X2 hW H hf hg he hh
  have o := oths_two (L := L) (n := n) (f := f) (g := g) (h := h) (e := e)
  have e0 : L ++ X2 n f g h e = (L ++ [mB n f e, mL n g h]) ++ [oF (n + 1) "a" (n, "m"), oF (n + 1) "b" (n, "n")] := by simp [X2]
  have o1 : ((n, "m") : Stp) ∈ oths (L ++ X2 n f g h e) := by rw [e0]; exact oths_app o.1
  have o2 : ((n, "n") : Stp) ∈ oths (L ++ X2 n f g h e) := by rw [e0]; exact oths_app o.2
  have hlt : ∀ x ∈ L ++ X2 n f g h e, x.st.1 < n + 1 + 1 := by
    intro x hx
    rcases List.mem_append.mp hx with a | a
    · have := H x a; omega
    · simp only [X2, List.mem_cons, List.not_mem_nil, or_false] at a
      rcases a with a | a | a | a <;> rw [a]
      · show n < _; omega
      · show n < _; omega
      · show n + 1 < _; omega
      · show n + 1 < _; omega
  have e2 : L ++ X3 n f g h e = ((L ++ X2 n f g h e) ++ [oN (n + 1 + 1) "a" (n, "m")]) ++ [oN (n + 1 + 1 + 1) "a" (n, "n")] := by simp [X3, X2]
  rw [e2]
  refine wf_sw (wf_sw w o1 fun x hx => ltS_iff.mpr (.inl (hlt x hx))) (oths_app o2) fun x hx => ?_
  rcases List.mem_append.mp hx with a | a
  · exact ltS_iff.mpr (.inl (by have := hlt x a; show x.st.1 < n + 1 + 1 + 1; omega))
  · rw [List.mem_singleton.mp a]; exact lt_n (by omega)
theorem ext_X3 (H : ∀ e ∈ L, e.st.1 < n) : Ext L (X3 n f g h e) := by
  refine ⟨fun d hd => ?_, fun d hd x => ?_, fun d hd y hy => ?_⟩
  · simp only [X3, List.mem_cons, List.not_mem_nil, or_false] at hd
    rcases hd with a | a | a | a | a | a <;> rw [a] <;> rfl
  · simp only [X3, List.mem_cons, List.not_mem_nil, or_false] at hd
    rcases hd with a | a | a | a | a | a <;> rw [a] <;> rfl
  · have h1 : ¬ ((n, "m") : Stp) = y.st := fun z => by have := H y hy; rw [← z] at this; exact Int.lt_irrefl _ this
    have h2 : ¬ ((n, "n") : Stp) = y.st := fun z => by have := H y hy; rw [← z] at this; exact Int.lt_irrefl _ this
    simp only [X3, List.mem_cons, List.not_mem_nil, or_false] at hd
    rcases hd with a | a | a | a | a | a <;> rw [a] <;> simp [swOf, mB, mL, oF, oN, h1, h2]
theorem Ext.of {X Y : List Deed} (E : Ext L X) (h : ∀ d ∈ Y, d ∈ X) : Ext L Y := ⟨fun d hd => E.nw d (h d hd), fun d hd => E.nc d (h d hd), fun d hd => E.sw d (h d hd)⟩
theorem ext_X2 (H : ∀ e ∈ L, e.st.1 < n) : Ext L (X2 n f g h e) := (ext_X3 H (f := f) (g := g) (h := h) (e := e)).of fun d hd => by
  simp only [X2, X3, List.mem_cons, List.not_mem_nil, or_false] at hd ⊢
  rcases hd with a | a | a | a <;> simp [a]
theorem ext_X1 (H : ∀ e ∈ L, e.st.1 < n) : Ext L (X1 n f g h e) := (ext_X3 H (f := f) (g := g) (h := h) (e := e)).of fun d hd => by
  simp only [X1, X3, List.mem_cons, List.not_mem_nil, or_false] at hd ⊢
  rcases hd with a | a <;> simp [a]
theorem no_st (H : ∀ e ∈ L, e.st.1 < n) (x : Str) : ∀ e ∈ L, e.st ≠ (n, x) := fun y hy z => by have := H y hy; rw [z] at this; exact Int.lt_irrefl _ this
theorem cnt1 (hW : Wf L) (H : ∀ e ∈ L, e.st.1 < n) : counts (L ++ X1 n f g h e) (n, "m") = true ∧ counts (L ++ X1 n f g h e) (n, "n") = true := by
  rw [counts_new hW (no_st H "m"), counts_new hW (no_st H "n")]
  constructor <;> rfl
theorem cnt2 (hW : Wf L) (H : ∀ e ∈ L, e.st.1 < n) : counts (L ++ X2 n f g h e) (n, "m") = false ∧ counts (L ++ X2 n f g h e) (n, "n") = false := by
  rw [counts_new hW (no_st H "m"), counts_new hW (no_st H "n")]
  have h1 := ne_mn n
  have h2 : ¬ ((n, "n") : Stp) = ((n, "m") : Stp) := fun z => h1 z.symm
  constructor
  · simp only [counts, sws, X2, mB, mL, oF, swOf, List.filterMap_cons, List.filterMap_nil, if_true, if_neg h2, if_neg h1]
    rfl
  · simp only [counts, sws, X2, mB, mL, oF, swOf, List.filterMap_cons, List.filterMap_nil, if_true, if_neg h2, if_neg h1]
    rfl
theorem cnt3 (hW : Wf L) (H : ∀ e ∈ L, e.st.1 < n) : counts (L ++ X3 n f g h e) (n, "m") = true ∧ counts (L ++ X3 n f g h e) (n, "n") = true := by
  rw [counts_new hW (no_st H "m"), counts_new hW (no_st H "n")]
  have h1 := ne_mn n
  have h2 : ¬ ((n, "n") : Stp) = ((n, "m") : Stp) := fun z => h1 z.symm
  constructor
  · simp only [counts, sws, X3, mB, mL, oF, oN, swOf, List.filterMap_cons, List.filterMap_nil, if_true, if_neg h2, if_neg h1]
    rfl
  · simp only [counts, sws, X3, mB, mL, oF, oN, swOf, List.filterMap_cons, List.filterMap_nil, if_true, if_neg h2, if_neg h1]
    rfl
end
/-! a mark of all -/
theorem plc_lt {L : List Deed} (hW : Wf L) {s : Stp} (hs : s ∈ lets L) : plc L s < (ordI L).length := (List.getElem?_eq_some_iff.mp (plc_at hW hs)).1
theorem idx_app {s : Stp} : ∀ {a b : List Stp}, s ∉ a → (a ++ s :: b).findIdx (fun t => decide (t = s)) = a.length
  | [], b, _ => by rw [List.nil_append, List.findIdx_cons]; simp
  | x :: a, b, h => by
    have h1 : ¬ x = s := fun z => h (by rw [z]; exact List.mem_cons_self)
    rw [List.cons_append, List.findIdx_cons, idx_app fun z => h (List.mem_cons_of_mem _ z)]
    simp [h1]
theorem plc_app {L : List Deed} {s : Stp} {a b : List Stp} (h : ordI L = a ++ s :: b) (hs : s ∉ a) : plc L s = a.length := by
  unfold plc
  rw [h]
  exact idx_app hs
theorem nodup_mid {α : Type} {a b : List α} {s : α} (h : (a ++ s :: b).Nodup) : s ∉ a ∧ s ∉ b := by
  rw [List.nodup_append] at h
  exact ⟨fun z => h.2.2 s z s List.mem_cons_self rfl, (List.nodup_cons.mp h.2.1).1⟩
section
variable {L : List Deed} {n : Int} {r0 rl : Stp}
theorem all_cov (hW : Wf L) (h0 : (ordI L).head? = some r0) (hl : (ordI L).getLast? = some rl) {s : Stp} (hs : s ∈ lets L) : covD L s (mB n r0 none) = true ∧ covD L s (mL n r0 rl) = true := by
  have nd := (ordI_ok hW).1
  have p0 : plc L r0 = 0 := by
    cases q : ordI L with
    | nil => rw [q] at h0; cases h0
    | cons x l =>
      rw [q] at h0
      cases h0
      exact plc_app (a := []) (b := l) q (by simp)
  have pl : plc L rl = (ordI L).length - 1 := by
    rcases List.eq_nil_or_concat (ordI L) with q | ⟨a, x, q⟩
    · rw [q] at hl; cases hl
    · rw [List.concat_eq_append] at q
      rw [q, List.getLast?_append, List.getLast?_singleton] at hl
      cases hl
      have := plc_app (L := L) (s := rl) (a := a) (b := []) q (nodup_mid (b := []) (by rw [← q]; exact nd)).1
      rw [this, q, List.length_append]
      simp
  have hp := plc_lt hW hs
  constructor
  · show (!decide (plc L s < plc L r0) && true) = true
    rw [p0]
    simp
  · show (!decide (plc L s < plc L r0) && decide (plc L s ≤ plc L rl)) = true
    rw [p0, pl]
    have : plc L s ≤ (ordI L).length - 1 := by omega
    simp [this]
theorem vv_X1 (hW : Wf L) (H : ∀ e ∈ L, e.st.1 < n) (h0 : (ordI L).head? = some r0) (hl : (ordI L).getLast? = some rl) {s : Stp} (hs : s ∈ lets L) : vv (L ++ X1 n r0 r0 rl none) s = (.b true, .t "q") := by
  obtain ⟨c1, c2⟩ := all_cov (n := n) hW h0 hl hs
  obtain ⟨k1, k2⟩ := cnt1 (f := r0) (g := r0) (h := rl) (e := none) hW H
  have E := ext_X1 (f := r0) (g := r0) (h := rl) (e := none) H
  have t1 : tell (L ++ X1 n r0 r0 rl none) true s = some (mB n r0 none) := by
    rw [E.tell]
    have : (X1 n r0 r0 rl none).reverse = [mL n r0 rl, mB n r0 none] := rfl
    rw [this, List.find?_cons]
    have i1 : isMk true (mL n r0 rl) = false := rfl
    have i2 : isMk true (mB n r0 none) = true := rfl
    rw [i1, Bool.false_and, List.find?_cons, i2, c1]
    show Option.or (match true && (true && counts (L ++ X1 n r0 r0 rl none) (n, "m")) with | true => _ | false => _) _ = _
    rw [k1]
    rfl
  have t2 : tell (L ++ X1 n r0 r0 rl none) false s = some (mL n r0 rl) := by
    rw [E.tell]
    have : (X1 n r0 r0 rl none).reverse = [mL n r0 rl, mB n r0 none] := rfl
    rw [this, List.find?_cons]
    have i1 : isMk false (mL n r0 rl) = true := rfl
    rw [i1, c2]
    show Option.or (match true && (true && counts (L ++ X1 n r0 r0 rl none) (n, "n")) with | true => _ | false => _) _ = _
    rw [k2]
    rfl
  unfold vv
  rw [t1, t2]
  rfl
theorem vv_X3 (hW : Wf L) (H : ∀ e ∈ L, e.st.1 < n) (h0 : (ordI L).head? = some r0) (hl : (ordI L).getLast? = some rl) {s : Stp} (hs : s ∈ lets L) : vv (L ++ X3 n r0 r0 rl none) s = (.b true, .t "q") := by
  obtain ⟨c1, c2⟩ := all_cov (n := n) hW h0 hl hs
  obtain ⟨k1, k2⟩ := cnt3 (f := r0) (g := r0) (h := rl) (e := none) hW H
  have E := ext_X3 (f := r0) (g := r0) (h := rl) (e := none) H
  have er : (X3 n r0 r0 rl none).reverse = [oN (n + 1 + 1 + 1) "a" (n, "n"), oN (n + 1 + 1) "a" (n, "m"), oF (n + 1) "b" (n, "n"), oF (n + 1) "a" (n, "m"), mL n r0 rl, mB n r0 none] := rfl
  have j1 : ∀ b x g, isMk b (oN x "a" g) = false := fun _ _ _ => rfl
  have j2 : ∀ b x y g, isMk b (oF x y g) = false := fun _ _ _ _ => rfl
  have t1 : tell (L ++ X3 n r0 r0 rl none) true s = some (mB n r0 none) := by
    rw [E.tell, er]
    have i1 : isMk true (mL n r0 rl) = false := rfl
    have i2 : isMk true (mB n r0 none) = true := rfl
    simp only [List.find?_cons, j1, j2, i1, Bool.false_and]
    rw [i2, c1]
    show Option.or (match true && (true && counts (L ++ X3 n r0 r0 rl none) (n, "m")) with | true => _ | false => _) _ = _
    rw [k1]
    rfl
  have t2 : tell (L ++ X3 n r0 r0 rl none) false s = some (mL n r0 rl) := by
    rw [E.tell, er]
    have i1 : isMk false (mL n r0 rl) = true := rfl
    simp only [List.find?_cons, j1, j2, Bool.false_and]
    rw [i1, c2]
    show Option.or (match true && (true && counts (L ++ X3 n r0 r0 rl none) (n, "n")) with | true => _ | false => _) _ = _
    rw [k2]
    rfl
  unfold vv
  rw [t1, t2]
  rfl
theorem vv_X2 (hW : Wf L) (H : ∀ e ∈ L, e.st.1 < n) (s : Stp) : vv (L ++ X2 n r0 r0 rl none) s = vv L s := by
  obtain ⟨k1, k2⟩ := cnt2 (f := r0) (g := r0) (h := rl) (e := none) hW H
  have E := ext_X2 (f := r0) (g := r0) (h := rl) (e := none) H
  have er : (X2 n r0 r0 rl none).reverse = [oF (n + 1) "b" (n, "n"), oF (n + 1) "a" (n, "m"), mL n r0 rl, mB n r0 none] := rfl
  have j2 : ∀ b x y g, isMk b (oF x y g) = false := fun _ _ _ _ => rfl
  have k1 : counts (L ++ X2 n r0 r0 rl none) (mB n r0 none).st = false := k1
  have k2 : counts (L ++ X2 n r0 r0 rl none) (mL n r0 rl).st = false := k2
  have t : ∀ b, tell (L ++ X2 n r0 r0 rl none) b s = tell L b s := by
    intro b
    rw [E.tell, er]
    simp only [List.find?_cons, j2, k1, k2, Bool.and_false, Bool.false_and, List.find?_nil, Option.none_or]
  unfold vv
  rw [t, t]
end
/-! a letter behind the last one of a bold stretch, of a link -/
section
variable {L : List Deed} {n : Int} {r : Stp} {l1 l2 : List Stp}
def wx (n : Int) (r : Stp) : Deed := .write (n + 1, "c") (some r) 120
def moreD (L : List Deed) (n : Int) (r : Stp) (e : Option Stp) : List Deed := L ++ [mB n r e, mL n r r, wx n r]
theorem ord_wx (hW : Wf L) (ho : ordI L = l1 ++ r :: l2) : ordI (L ++ [wx n r]) = l1 ++ r :: (n + 1, "c") :: l2 := by
  have nd := (ordI_ok hW).1
  rw [ho] at nd
  obtain ⟨h1, h2⟩ := nodup_mid nd
  rw [ordI_snoc, ho]
  show insA (some r) (n + 1, "c") none (l1 ++ r :: l2) = _
  unfold insA
  rw [if_neg (fun z => by cases z), List.nil_append, insT_app, insT_no fun t ht z => h1 (by cases z; exact ht)]
  congr 1
  show (if some r = some r then [r, (n + 1, "c")] else [r]) ++ insT (some r) (n + 1, "c") l2 = _
  rw [if_pos rfl, insT_no fun t ht z => h2 (by cases z; exact ht)]
  rfl
theorem ord_more (hW : Wf L) (ho : ordI L = l1 ++ r :: l2) (e : Option Stp) : ordI (moreD L n r e) = ordI (L ++ [wx n r]) := by
  have : moreD L n r e = (L ++ [mB n r e, mL n r r]) ++ [wx n r] := by simp [moreD]
  rw [this, ordI_snoc, ordI_snoc, ord_nw (X := [mB n r e, mL n r r])]
  intro d hd
  rcases List.mem_cons.mp hd with a | a
  · rw [a]; rfl
  · rw [List.mem_singleton.mp a]; rfl
theorem wf_more (hW : Wf L) (H : ∀ e ∈ L, e.st.1 < n) (hr : r ∈ lets L) {e : Option Stp} (he : ∀ s, e = some s → s ∈ lets L) : Wf (moreD L n r e) := by
  have w := wf_two hW H hr hr he hr
  have : moreD L n r e = (L ++ [mB n r e, mL n r r]) ++ [wx n r] := by simp [moreD]
  rw [this]
  refine .snoc w (fun s q => ?_) fun x hx => ?_
  · cases q
    unfold lets
    rw [List.filterMap_append]
    exact List.mem_append_left _ hr
  · rcases List.mem_append.mp hx with a | a
    · exact ltS_iff.mpr (.inl (by have := H x a; show x.st.1 < n + 1; omega))
    · rcases List.mem_cons.mp a with a | a
      · rw [a]; exact lt_n (by omega)
      · rw [List.mem_singleton.mp a]; exact lt_n (by omega)
theorem wf_wx (hW : Wf L) (H : ∀ e ∈ L, e.st.1 < n) (hr : r ∈ lets L) : Wf (L ++ [wx n r]) := .snoc hW (fun s q => by cases q; exact hr) fun x hx => ltS_iff.mpr (.inl (by have := H x hx; show x.st.1 < n + 1; omega))
theorem more_counts {e : Option Stp} {x : Deed} (hx : x ∈ L) : counts (moreD L n r e) x.st = counts L x.st := counts_app fun d hd => by
  simp only [List.mem_cons, List.not_mem_nil, or_false] at hd
  rcases hd with a | a | a <;> rw [a] <;> rfl
theorem wx_counts {x : Deed} (hx : x ∈ L) : counts (L ++ [wx n r]) x.st = counts L x.st := counts_app fun d hd => by rw [List.mem_singleton.mp hd]; rfl
theorem more_cnt (hW : Wf L) (H : ∀ e ∈ L, e.st.1 < n) {e : Option Stp} : counts (moreD L n r e) (n, "m") = true ∧ counts (moreD L n r e) (n, "n") = true := by
  unfold moreD
  rw [counts_new hW (no_st H "m"), counts_new hW (no_st H "n")]
  constructor <;> rfl
theorem more_plc (hW : Wf L) (H : ∀ e ∈ L, e.st.1 < n) (ho : ordI L = l1 ++ r :: l2) (e : Option Stp) :
    plc (moreD L n r e) r = l1.length ∧ plc (moreD L n r e) (n + 1, "c") = l1.length + 1 ∧ ∀ s, l2.head? = some s → plc (moreD L n r e) s = l1.length + 2 := by
  have nd := (ordI_ok hW).1
  have hm := (ordI_ok hW).2.1
  have hn : ∀ s ∈ ordI L, s ≠ ((n + 1, "c") : Stp) := fun s hs z => by
    obtain ⟨d, hd, q⟩ := mem_lets (hm s hs)
    have := H d hd
    rw [q, z] at this
    have : n + 1 < n := this
    omega
  rw [ho] at nd hn
  obtain ⟨h1, h2⟩ := nodup_mid nd
  have hO : ordI (moreD L n r e) = l1 ++ r :: ((n + 1, "c") : Stp) :: l2 := (ord_more hW ho e).trans (ord_wx hW ho)
  refine ⟨plc_app hO h1, ?_, fun s hs => ?_⟩
  · have hO2 : ordI (moreD L n r e) = (l1 ++ [r]) ++ ((n + 1, "c") : Stp) :: l2 := by rw [hO]; simp
    rw [plc_app hO2]
    · simp
    · intro z
      rcases List.mem_append.mp z with a | a
      · exact hn _ (List.mem_append_left _ a) rfl
      · exact hn r (List.mem_append_right _ List.mem_cons_self) (List.mem_singleton.mp a).symm
  · cases l2 with
    | nil => cases hs
    | cons x l3 =>
      cases hs
      have hO2 : ordI (moreD L n r e) = (l1 ++ [r, ((n + 1, "c") : Stp)]) ++ s :: l3 := by rw [hO]; simp
      rw [plc_app hO2]
      · simp
      · intro z
        rcases List.mem_append.mp z with a | a
        · rw [List.nodup_append] at nd
          exact nd.2.2 s a s (List.mem_cons_of_mem _ List.mem_cons_self) rfl
        · rcases List.mem_cons.mp a with a | a
          · rw [a] at h2; exact h2 List.mem_cons_self
          · exact hn s (List.mem_append_right _ (List.mem_cons_of_mem _ List.mem_cons_self)) (List.mem_singleton.mp a)
theorem more_rev (e : Option Stp) : (moreD L n r e).reverse = wx n r :: mL n r r :: mB n r e :: L.reverse := by simp [moreD]
theorem more_bold (hW : Wf L) (H : ∀ e ∈ L, e.st.1 < n) (ho : ordI L = l1 ++ r :: l2) : tell (moreD L n r l2.head?) true (n + 1, "c") = some (mB n r l2.head?) := by
  obtain ⟨p1, p2, p3⟩ := more_plc hW H ho l2.head?
  obtain ⟨k1, k2⟩ := more_cnt (r := r) (e := l2.head?) hW H
  unfold tell
  rw [more_rev]
  have i0 : isMk true (wx n r) = false := rfl
  have i1 : isMk true (mL n r r) = false := rfl
  have i2 : isMk true (mB n r l2.head?) = true := rfl
  simp only [List.find?_cons, i0, i1, Bool.false_and]
  have cv : covD (moreD L n r l2.head?) (n + 1, "c") (mB n r l2.head?) = true := by
    show cov (moreD L n r l2.head?) true r l2.head? (n + 1, "c") = true
    unfold cov
    rw [p1, p2]
    cases q : l2.head? with
    | none => simp
    | some s =>
      have := p3 s q
      rw [q] at this
      dsimp only
      rw [this]
      simp
  have k1 : counts (moreD L n r l2.head?) (mB n r l2.head?).st = true := k1
  rw [i2, cv, k1]
  rfl
theorem more_link (hW : Wf L) (H : ∀ e ∈ L, e.st.1 < n) (ho : ordI L = l1 ++ r :: l2) (e : Option Stp) : tell (moreD L n r e) false r = some (mL n r r) := by
  obtain ⟨k1, k2⟩ := more_cnt (r := r) (e := e) hW H
  unfold tell
  rw [more_rev]
  have i0 : isMk false (wx n r) = false := rfl
  have i1 : isMk false (mL n r r) = true := rfl
  simp only [List.find?_cons, i0, Bool.false_and]
  have cv : covD (moreD L n r e) r (mL n r r) = true := by
    show (!decide (plc (moreD L n r e) r < plc (moreD L n r e) r) && decide (plc (moreD L n r e) r ≤ plc (moreD L n r e) r)) = true
    simp
  have k2 : counts (moreD L n r e) (mL n r r).st = true := k2
  rw [i1, cv, k2]
  rfl
theorem more_not (hW : Wf L) (H : ∀ e ∈ L, e.st.1 < n) (ho : ordI L = l1 ++ r :: l2) (e : Option Stp) : tell (moreD L n r e) false (n + 1, "c") = tell (L ++ [wx n r]) false (n + 1, "c") := by
  obtain ⟨p1, p2, p3⟩ := more_plc hW H ho e
  have hO := ord_more (n := n) hW ho e
  unfold tell
  rw [more_rev]
  have i0 : isMk false (wx n r) = false := rfl
  have i2 : isMk false (mB n r e) = false := rfl
  have cv : covD (moreD L n r e) (n + 1, "c") (mL n r r) = false := by
    show (!decide (plc (moreD L n r e) (n + 1, "c") < plc (moreD L n r e) r) && decide (plc (moreD L n r e) (n + 1, "c") ≤ plc (moreD L n r e) r)) = false
    rw [p1, p2]
    simp
  have er : (L ++ [wx n r]).reverse = wx n r :: L.reverse := by simp
  rw [er]
  simp only [List.find?_cons, i0, i2, cv, Bool.false_and, Bool.and_false]
  refine find_cg fun d hd => ?_
  have hd := List.mem_reverse.mp hd
  rw [cov_of_ord hO, more_counts hd, wx_counts hd]
end
end M

/-! Mathematics 13: things of small parts -/
namespace DD
open PySem PySem.Spec PyProof.Rows L2 SeqAt
/-- small parts, no lists -/
def Od : Nat → D → Prop
  | 0, _ => False
  | n + 1, d => match d with
    | .non => True
    | .bl _ => True
    | .int i => -1000000 ≤ i ∧ i ≤ 1000000
    | .str x => x.length ≤ 100
    | .tup ds => ds.length ≤ 100 ∧ ∀ x ∈ ds, Od n x
    | _ => False
theorem Od.up : ∀ {n : Nat} {d : D}, Od n d → Od (n + 1) d
  | 0, _, h => h.elim
  | n + 1, d, h => by
    cases d with
    | tup ds => exact ⟨h.1, fun x hx => Od.up (h.2 x hx)⟩
    | scr ds => exact h.elim
    | ty n => exact h.elim
    | ref a => exact h.elim
    | non => trivial
    | bl b => trivial
    | int i => exact h
    | str x => exact h
theorem flats_all : ∀ {ds : List D}, (∀ x ∈ ds, flat x = true) → flats ds = true
  | [], _ => rfl
  | d :: ds, h => by
    show (flat d && flats ds) = true
    rw [h d List.mem_cons_self, flats_all fun x hx => h x (List.mem_cons_of_mem _ hx)]
    rfl
theorem dps_all {n : Nat} : ∀ {ds : List D}, (∀ x ∈ ds, dpP (toP x) ≤ n) → dpPs (toPs ds) ≤ n
  | [], _ => Nat.zero_le _
  | d :: ds, h => by
    show max (dpP (toP d)) (dpPs (toPs ds)) ≤ n
    have h1 := h d List.mem_cons_self
    have h2 := dps_all (n := n) (ds := ds) fun x hx => h x (List.mem_cons_of_mem _ hx)
    omega
theorem Od.flat : ∀ {n : Nat} {d : D}, Od n d → DD.flat d = true
  | 0, _, h => h.elim
  | n + 1, d, h => by
    cases d with
    | tup ds => exact flats_all fun x hx => Od.flat (h.2 x hx)
    | scr ds => exact h.elim
    | ty n => exact h.elim
    | ref a => exact h.elim
    | _ => rfl
theorem Od.dp : ∀ {n : Nat} {d : D}, Od n d → dpP (toP d) ≤ n
  | 0, _, h => h.elim
  | n + 1, d, h => by
    cases d with
    | tup ds =>
      show dpPs (toPs ds) + 1 ≤ n + 1
      have := dps_all (n := n) (ds := ds) fun x hx => Od.dp (h.2 x hx)
      omega
    | scr ds => exact h.elim
    | ty n => exact h.elim
    | ref a => exact h.elim
    | _ => exact Nat.zero_le _
theorem Od.th {G : DG} : ∀ {n : Nat} {d : D}, Od n d → Th G n d
  | 0, _, h => h.elim
  | n + 1, d, h => by
    cases d with
    | tup ds => exact fun x hx => Od.th (h.2 x hx)
    | scr ds => exact h.elim
    | ty n => exact h.elim
    | ref a => exact h.elim
    | _ => trivial
theorem Th.up {G : DG} : ∀ {n : Nat} {d : D}, Th G n d → Th G (n + 1) d
  | 0, _, h => h.elim
  | n + 1, d, h => by
    cases d with
    | tup ds => exact fun x hx => Th.up (h x hx)
    | ref a => exact h
    | scr ds => exact h.elim
    | ty n => exact h.elim
    | _ => trivial
mutual
/-- no truth that is true -/
def nT : D → Bool
  | .bl b => !b
  | .tup ds => nTs ds
  | _ => true
def nTs : List D → Bool
  | [] => true
  | d :: ds => nT d && nTs ds
end
theorem nTs_all {ds : List D} : nTs ds = true ↔ ∀ x ∈ ds, nT x = true := by
  induction ds with
  | nil => simp [nTs]
  | cons d ds ih => rw [nTs, Bool.and_eq_true, ih]; simp
/-- what is == to a stamp is it -/
theorem eqG_stamp {G : DG} {n : Nat} {y : D} {s : Stp} (h : Th G n y) (hn : nT y = true) (hs : 1 ≤ s.1) (e : eqG G y (encS s) = true) : y = encS s := by
  unfold eqG at e
  cases n with
  | zero => exact h.elim
  | succ n =>
  cases y with
  | non => cases e
  | bl b => cases e
  | int i => cases e
  | str x => cases e
  | scr ds => exact h.elim
  | ty n => exact h.elim
  | ref a =>
    obtain ⟨ds, h1, h2, _⟩ := h
    have er : DD.res G (.ref a) = some (.lst (toPs ds)) := by rw [DD.res, h1]; simp [h2]
    rw [er] at e
    cases e
  | tup ds =>
    have h : ∀ x ∈ ds, Th G n x := h
    have hn : nTs ds = true := hn
    have one : ∀ {d : D} {i : Int}, d ∈ ds → eqP ((DD.res G d).getD .none) (.num i) = true → 1 ≤ i → d = .int i := by
      intro d i hd q hi
      have hd' := nTs_all.mp hn d hd
      have ht := h d hd
      cases n with
      | zero => exact ht.elim
      | succ n =>
      cases d with
      | non => cases q
      | bl b =>
        cases b with
        | true => cases hd'
        | false =>
          have q : ((0 : Int) == i) = true := q
          have := eq_of_beq q
          omega
      | int j =>
        have q : (j == i) = true := q
        rw [eq_of_beq q]
      | str x => cases q
      | tup xs =>
        have ht : ∀ x ∈ xs, Th G n x := ht
        obtain ⟨ps, hp⟩ := ress_all fun x hx => (ht x hx).res
        rw [DD.res, hp] at q
        cases q
      | scr ds => exact ht.elim
      | ty n => exact ht.elim
      | ref a =>
        obtain ⟨xs, h1, h2, _⟩ := ht
        have er : DD.res G (.ref a) = some (.lst (toPs xs)) := by rw [DD.res, h1]; simp [h2]
        rw [er] at q
        cases q
    have two : ∀ {d : D} {x : Str}, d ∈ ds → eqP ((DD.res G d).getD .none) (.text x) = true → d = .str x := by
      intro d x hd q
      have ht := h d hd
      cases n with
      | zero => exact ht.elim
      | succ n =>
      cases d with
      | non => cases q
      | bl b => cases q
      | int j => cases q
      | str y =>
        have q : (y == x) = true := q
        rw [eq_of_beq q]
      | tup xs =>
        have ht : ∀ x ∈ xs, Th G n x := ht
        obtain ⟨ps, hp⟩ := ress_all fun x hx => (ht x hx).res
        rw [DD.res, hp] at q
        cases q
      | scr ds => exact ht.elim
      | ty n => exact ht.elim
      | ref a =>
        obtain ⟨xs, h1, h2, _⟩ := ht
        have er : DD.res G (.ref a) = some (.lst (toPs xs)) := by rw [DD.res, h1]; simp [h2]
        rw [er] at q
        cases q
    obtain ⟨ps, hp⟩ := ress_all fun x hx => (h x hx).res
    have er : DD.res G (.tup ds) = some (.tup ps) := by rw [DD.res, hp]; rfl
    rw [er] at e
    have e : eqPs ps [.num s.1, .text s.2] = true := e
    match ds, hp with
    | [], hp => cases hp; cases e
    | [d], hp =>
      obtain ⟨p, q⟩ := (h d List.mem_cons_self).res
      rw [ress, q] at hp
      cases hp
      have e : (eqP p _ && false) = true := e
      rw [Bool.and_false] at e
      cases e
    | [d1, d2], hp =>
      obtain ⟨p1, q1⟩ := (h d1 List.mem_cons_self).res
      obtain ⟨p2, q2⟩ := (h d2 (List.mem_cons_of_mem _ List.mem_cons_self)).res
      rw [ress, q1] at hp
      dsimp only at hp
      rw [ress, q2] at hp
      cases hp
      have e : (eqP p1 (.num s.1) && (eqP p2 (.text s.2) && true)) = true := e
      rw [Bool.and_eq_true, Bool.and_eq_true] at e
      have r1 := one (d := d1) (i := s.1) List.mem_cons_self (by rw [q1]; exact e.1) hs
      have r2 := two (d := d2) (x := s.2) (List.mem_cons_of_mem _ List.mem_cons_self) (by rw [q2]; exact e.2.1)
      rw [r1, r2]
      rfl
    | d1 :: d2 :: d3 :: r, hp =>
      obtain ⟨p1, q1⟩ := (h d1 List.mem_cons_self).res
      obtain ⟨p2, q2⟩ := (h d2 (List.mem_cons_of_mem _ List.mem_cons_self)).res
      obtain ⟨p3, q3⟩ := (h d3 (List.mem_cons_of_mem _ (List.mem_cons_of_mem _ List.mem_cons_self))).res
      obtain ⟨ps', hp'⟩ := ress_all (ds := r) fun x hx => (h x (List.mem_cons_of_mem _ (List.mem_cons_of_mem _ (List.mem_cons_of_mem _ hx)))).res
      rw [ress, q1] at hp
      dsimp only at hp
      rw [ress, q2] at hp
      dsimp only at hp
      rw [ress, q3] at hp
      dsimp only at hp
      rw [hp'] at hp
      cases hp
      have e : (eqP p1 (.num s.1) && (eqP p2 (.text s.2) && false)) = true := e
      rw [Bool.and_false, Bool.and_false] at e
      cases e
theorem cut_mem {α : Type} {xs : List α} {lo hi : Option Int} {y : α} (h : y ∈ cut xs lo hi) : y ∈ xs := by
  unfold cut at h
  exact List.drop_subset _ _ (List.take_subset _ _ h)
theorem rep_mem {α : Type} {n : Nat} {xs : List α} {y : α} (h : y ∈ (List.replicate n xs).flatten) : y ∈ xs := by
  obtain ⟨l, hl, hy⟩ := List.mem_flatten.mp h
  rw [(List.mem_replicate.mp hl).2] at hy
  exact hy
theorem rMul_lst {G : DG} {Q : DK} {a : Addr} {xs : List D} (h : G a = some (.lst xs)) (hl : xs.length ≤ 1000) (q : ∀ p, G p = none → Q (.ref p) (gup G p (.lst (List.replicate 2 xs).flatten))) : DD.rMul (.ref a) (.int 2) G Q := by
  show (match G a with | some (.lst xs) => (0 ≤ (2 : Int) ∧ (2 : Int) ≤ 1000 ∧ xs.length ≤ 1000) ∧ ∀ p, G p = none → Q (.ref p) (gup G p (.lst (List.replicate (Int.toNat 2) xs).flatten)) | _ => False)
  rw [h]
  exact ⟨⟨by decide, by decide, hl⟩, q⟩
end DD

namespace K
open PySem PySem.Spec PyProof.Rows L2 DD M
def top (i : Nat) : Stmt := PySem.Challenge.pw_handmarks_k05_whole_told.main.body.getD i (.Pass ⟨0, 0, 0, 0⟩)
/-! ### _law_cell, _law_mix -/
def pre__law_cell (ds : List D) : Prop := ∃ (xs : List Int) (k : Nat), ds = [D.scr (xs.map D.int), D.int (k : Int)]
def rel__law_cell (_ : List D) (d : D) : Prop := ∃ i : Int, d = D.int i
def sp__law_cell : DSp := spQ pre__law_cell rel__law_cell
abbrev N__law_cell : List Str := ["_law_script", "_law_k"]
abbrev ps__law_cell : List Str := ["_law_script", "_law_k"]
def t__law_cell : DTS :=
  (dSeq (dIfS (dTB (dOp (rOrd .lt) (dVar 1) (dCB rLen (dCons (dVar 0) dNil)))) (dRet (dOp rIx (dVar 0) (dVar 1))) dNext) (dRet (dC (.int 0))))
theorem sc__law_cell : FnScope N__law_cell ps__law_cell (defScope (top 25)) := ⟨rfl, rfl, rfl, by decide +kernel, rfl, by decide +kernel, by decide +kernel⟩
theorem der__law_cell {P : Program} {w : World} {K : PySem.W.Frag} {mg : Str → Option Value} {base : Heap} (g_len : mg "len" = none) (f : Addr) (cdv : Value) (A : Around) (outer : List Env) (s : Shared) (H : Hp) (E : XK)
    (hr : Room 0 (A.deeper (envOfC "_law_cell" (defScope (top 25)) s.heap.objs.size f cdv))) :
    DSs (cxOf CX0 P w K mg base N__law_cell "_law_cell" (defScope (top 25)) f cdv A outer s H E).nox (Rg.top K w) (defBody (top 25)) t__law_cell := by
  have S := sc__law_cell
  exact (dss_cons (ds_if (dt_cmp (op_ltD hr.units) (de_var (pv 1)) (de_callB call_lenD rfl g_len rfl (da_cons (de_var (pv 0)) da_nil)) (by rfl)) (dss_one (ds_ret (de_ix (ix_D hr.units) (de_var (pv 0)) (de_var (pv 1))))) dss_nil)
    (dss_one (ds_ret de_int)))
theorem bind__law_cell (kV doc pm : Value) (an : Option Addr) (cdv ct : Value) (us : List Value) (hl : us.length = ps__law_cell.length) : bindArgs (PySem.W.fnOf "_law_cell" "_law_cell" (defArgs (top 25)) (defBody (top 25)) (defScope (top 25)) .none kV doc pm an cdv ct) ⟨us, []⟩ = pure (ps__law_cell.zip us) := match us, hl with | [_, _], _ => rfl
theorem len__law_cell : ∀ ds, pre__law_cell ds → ds.length = ps__law_cell.length := by
  rintro ds ⟨xs, k, rfl⟩; rfl
theorem pure__law_cell : ∀ ds, pre__law_cell ds → t__law_cell { nx := fun _ _ => rel__law_cell ds .non, rt := fun d' _ => rel__law_cell ds d' } (dstart N__law_cell ds) g0 := by
  rintro ds ⟨xs, k, rfl⟩
  simp only [t__law_cell, N__law_cell, dSeq, dSet, dNext, dRet, dDrop, dIfS, dFor, dPut, dAsg, dPar, dPar3, dOp, dUn, dVar, dC, dTup, dLst, dNil, dCons, dCall, dCB, dBM, isTy_str, dTB, dAndT, dOrT, dNotT, dAnd, dOr, dNot, dIf, dTru, truth, dChain, dSl, dPart, dNoPart,  dLc,  dRng1, dRng2,  dEnumT, dgName, dgTup, dgCons, dgNil, dDct0, dYes, dCont, dBreak, dwipe, dstart, rAdd_int, rAdd_str, rAdd_tup, rSub_int, rMul_int, rMod_int, rFdiv_int, rNeg_int, rIs_non, rIsNot_non, rIs_bl, DD.isNonD,  rIx_str, rIx_tup, rIx_scr, rLen_str, rLen_tup, rLen_scr, rTuple_tup, rList_tup, rIn_s1, rIn_s2, rIn_s3, rMax2_int, rMin2_int, rInt1_int, rSl_str, rSl_tup, rev_app, revK_tup, seqX_app, seqK_tup, seqK_str, zip_app, zipK_tup, rLt_int, rLe_int, rGt_int, rGe_int, rLt_str, rLe_str, rGt_str, rGe_str, rOrd_encS, DD.rEq_int, DD.rEq_str, DD.rEq_bl, DD.rNe_int, DD.rNe_str, rEq_encS, rEq_encO, rEq_OS, atI_0, atI_1, atI_2, atI_3, atI_4, atI_5, atI_snoc, ob_some, gup_same, List.map_cons, List.map_nil, List.length_cons, List.length_nil, List.cons_append, List.nil_append, List.getElem?_cons_zero, List.getElem?_cons_succ, List.set_cons_zero, List.set_cons_succ, List.replicate_zero, List.replicate_succ, Nat.reduceSub, Nat.reduceAdd, if_true, if_false, Bool.false_eq_true, Bool.not_true, Bool.not_false, true_and, and_true]
  split
  · rename_i h
    have h := of_decide_eq_true h
    rw [List.length_map] at h
    have hk : k < xs.length := by omega
    rw [atI_nat (a := D.int xs[k]) (by simp [hk])]
    exact ⟨_, rfl⟩
  · exact ⟨0, rfl⟩
theorem good__law_cell {P : Program} {w : World} {K : PySem.W.Frag} {mg : Str → Option Value} {base : Heap} (D0 : DefAt K mg "_law_cell" (top 25)) (g_len : mg "len" = none) : Good P w K mg base "_law_cell" ps__law_cell 1 sp__law_cell :=
  goodQ D0 sc__law_cell t__law_cell bind__law_cell len__law_cell (fun f cdv A outer s H E hr => der__law_cell g_len f cdv A outer s H E hr) pure__law_cell
def pre__law_mix (ds : List D) : Prop := ∃ c p m : Int, ds = [D.int c, D.int p, D.int m] ∧ 0 < p ∧ p < 100000 ∧ 0 < m
def rel__law_mix (ds : List D) (d : D) : Prop := ∃ r : Int, d = D.int r ∧ 0 ≤ r ∧ ∀ c p m : Int, ds = [D.int c, D.int p, D.int m] → r < m
def sp__law_mix : DSp := spQ pre__law_mix rel__law_mix
abbrev N__law_mix : List Str := ["_law_cell_here", "_law_prime", "_law_many", "_law_blend"]
abbrev ps__law_mix : List Str := ["_law_cell_here", "_law_prime", "_law_many"]
def t__law_mix : DTS :=
  (dSeq (dSet 3 (dOp rMod (dOp rMul (dVar 0) (dC (.int 48271))) (dVar 1))) (dRet (dOp rMod (dOp rMod (dOp rMul (dVar 3) (dOp rAdd (dVar 3) (dC (.int 7)))) (dVar 1)) (dVar 2))))
theorem sc__law_mix : FnScope N__law_mix ps__law_mix (defScope (top 26)) := ⟨rfl, rfl, rfl, by decide +kernel, rfl, by decide +kernel, by decide +kernel⟩
theorem der__law_mix {P : Program} {w : World} {K : PySem.W.Frag} {mg : Str → Option Value} {base : Heap} (f : Addr) (cdv : Value) (A : Around) (outer : List Env) (s : Shared) (H : Hp) (E : XK)
    (hr : Room 0 (A.deeper (envOfC "_law_mix" (defScope (top 26)) s.heap.objs.size f cdv))) :
    DSs (cxOf CX0 P w K mg base N__law_mix "_law_mix" (defScope (top 26)) f cdv A outer s H E).nox (Rg.top K w) (defBody (top 26)) t__law_mix := by
  have S := sc__law_mix
  exact (dss_cons (ds_set (i := 3) S.nd rfl (by first | exact Or.inl rfl | exact Or.inr rfl) (de_op op_modD (de_op op_mulD (de_var (pv 0)) de_int) (de_var (pv 1))))
    (dss_one (ds_ret (de_op op_modD (de_op op_modD (de_op op_mulD (de_var (pv 3)) (de_op op_addD (de_var (pv 3)) de_int)) (de_var (pv 1))) (de_var (pv 2))))))
theorem bind__law_mix (kV doc pm : Value) (an : Option Addr) (cdv ct : Value) (us : List Value) (hl : us.length = ps__law_mix.length) : bindArgs (PySem.W.fnOf "_law_mix" "_law_mix" (defArgs (top 26)) (defBody (top 26)) (defScope (top 26)) .none kV doc pm an cdv ct) ⟨us, []⟩ = pure (ps__law_mix.zip us) := match us, hl with | [_, _, _], _ => rfl
theorem len__law_mix : ∀ ds, pre__law_mix ds → ds.length = ps__law_mix.length := by
  rintro ds ⟨c, p, m, rfl, _⟩; rfl
theorem pure__law_mix : ∀ ds, pre__law_mix ds → t__law_mix { nx := fun _ _ => rel__law_mix ds .non, rt := fun d' _ => rel__law_mix ds d' } (dstart N__law_mix ds) g0 := by
  rintro ds ⟨c, p, m, rfl, h1, h2, h3⟩
  simp only [t__law_mix, N__law_mix, dSeq, dSet, dNext, dRet, dDrop, dIfS, dFor, dPut, dAsg, dPar, dPar3, dOp, dUn, dVar, dC, dTup, dLst, dNil, dCons, dCall, dCB, dBM, isTy_str, dTB, dAndT, dOrT, dNotT, dAnd, dOr, dNot, dIf, dTru, truth, dChain, dSl, dPart, dNoPart,  dLc,  dRng1, dRng2,  dEnumT, dgName, dgTup, dgCons, dgNil, dDct0, dYes, dCont, dBreak, dwipe, dstart, rAdd_int, rAdd_str, rAdd_tup, rSub_int, rMul_int, rMod_int, rFdiv_int, rNeg_int, rIs_non, rIsNot_non, rIs_bl, DD.isNonD,  rIx_str, rIx_tup, rIx_scr, rLen_str, rLen_tup, rLen_scr, rTuple_tup, rList_tup, rIn_s1, rIn_s2, rIn_s3, rMax2_int, rMin2_int, rInt1_int, rSl_str, rSl_tup, rev_app, revK_tup, seqX_app, seqK_tup, seqK_str, zip_app, zipK_tup, rLt_int, rLe_int, rGt_int, rGe_int, rLt_str, rLe_str, rGt_str, rGe_str, rOrd_encS, DD.rEq_int, DD.rEq_str, DD.rEq_bl, DD.rNe_int, DD.rNe_str, rEq_encS, rEq_encO, rEq_OS, atI_0, atI_1, atI_2, atI_3, atI_4, atI_5, atI_snoc, ob_some, gup_same, List.map_cons, List.map_nil, List.length_cons, List.length_nil, List.cons_append, List.nil_append, List.getElem?_cons_zero, List.getElem?_cons_succ, List.set_cons_zero, List.set_cons_succ, List.replicate_zero, List.replicate_succ, Nat.reduceSub, Nat.reduceAdd, if_true, if_false, Bool.false_eq_true, Bool.not_true, Bool.not_false, true_and, and_true]
  have e1 := Int.emod_nonneg (c * 48271) (by omega : p ≠ 0)
  have e2 := Int.emod_lt_of_pos (c * 48271) h1
  refine ⟨.inr ⟨by omega, by omega⟩, h1, .inl ⟨by omega, by omega⟩, h1, h3, _, rfl, Int.emod_nonneg _ (by omega), ?_⟩
  intro c' p' m' e
  cases e
  exact Int.emod_lt_of_pos _ h3
theorem good__law_mix {P : Program} {w : World} {K : PySem.W.Frag} {mg : Str → Option Value} {base : Heap} (D0 : DefAt K mg "_law_mix" (top 26)) : Good P w K mg base "_law_mix" ps__law_mix 1 sp__law_mix :=
  goodQ D0 sc__law_mix t__law_mix bind__law_mix len__law_mix (fun f cdv A outer s H E hr => der__law_mix  f cdv A outer s H E hr) pure__law_mix
/-- what _law_mix tells -/
theorem mix_use {c p m : Int} {G : DG} {Q : DK} {RE : DX} (h1 : 0 < p ∧ p < 100000 ∧ 0 < m) (h : ∀ r : Int, 0 ≤ r → r < m → Q (.int r) G) : sp__law_mix [.int c, .int p, .int m] G Q RE :=
  ⟨⟨c, p, m, rfl, h1⟩, fun d ⟨r, e, h0, hm⟩ => by subst e; exact h r h0 (hm _ _ _ rfl)⟩
def pre__law_letter (ds : List D) : Prop := ∃ c : Int, ds = [D.int c]
def rel__law_letter (_ : List D) (d : D) : Prop := ∃ c : Nat, d = D.str ⟨#[c]⟩ ∧ 32 ≤ c ∧ c ≤ 126 ∧ c ≠ 37
def sp__law_letter : DSp := spQ pre__law_letter rel__law_letter
abbrev N__law_letter : List Str := ["_law_cell_here", "_law_signs"]
abbrev ps__law_letter : List Str := ["_law_cell_here"]
def t__law_letter : DTS :=
  (dSeq (dSet 1 (dC (.str "abc xyz!ABZ~0189-\\/()[]{}<>?*+=,.;:'\"_^|&#@$QRST"))) (dRet (dOp rIx (dVar 1) (dCall sp__law_mix ex0 (dCons (dVar 0) (dCons (dC (.int 9973)) (dCons (dCB rLen (dCons (dVar 1) dNil)) dNil)))))))
theorem sc__law_letter : FnScope N__law_letter ps__law_letter (defScope (top 27)) := ⟨rfl, rfl, rfl, by decide +kernel, rfl, by decide +kernel, by decide +kernel⟩
theorem der__law_letter {P : Program} {w : World} {K : PySem.W.Frag} {mg : Str → Option Value} {base : Heap} (g_len : mg "len" = none) (G__law_mix : Good P w K mg base "_law_mix" ps__law_mix 1 sp__law_mix) (f : Addr) (cdv : Value) (A : Around) (outer : List Env) (s : Shared) (H : Hp) (E : XK)
    (hr : Room 1 (A.deeper (envOfC "_law_letter" (defScope (top 27)) s.heap.objs.size f cdv))) :
    DSs (cxOf CX0 P w K mg base N__law_letter "_law_letter" (defScope (top 27)) f cdv A outer s H E).nox (Rg.top K w) (defBody (top 27)) t__law_letter := by
  have S := sc__law_letter
  exact (dss_cons (ds_set (i := 1) S.nd rfl (by first | exact Or.inl rfl | exact Or.inr rfl) de_str)
    (dss_one (ds_ret (de_ix (ix_D hr.units) (de_var (pv 1)) (de_callG G__law_mix hr rfl (da_cons (de_var (pv 0)) (da_cons de_int (da_cons (de_callB call_lenD rfl g_len rfl (da_cons (de_var (pv 1)) da_nil)) da_nil))))))))
theorem bind__law_letter (kV doc pm : Value) (an : Option Addr) (cdv ct : Value) (us : List Value) (hl : us.length = ps__law_letter.length) : bindArgs (PySem.W.fnOf "_law_letter" "_law_letter" (defArgs (top 27)) (defBody (top 27)) (defScope (top 27)) .none kV doc pm an cdv ct) ⟨us, []⟩ = pure (ps__law_letter.zip us) := match us, hl with | [_], _ => rfl
theorem len__law_letter : ∀ ds, pre__law_letter ds → ds.length = ps__law_letter.length := by
  rintro ds ⟨c, rfl⟩; rfl
theorem pure__law_letter : ∀ ds, pre__law_letter ds → t__law_letter { nx := fun _ _ => rel__law_letter ds .non, rt := fun d' _ => rel__law_letter ds d' } (dstart N__law_letter ds) g0 := by
  rintro ds ⟨c, rfl⟩
  simp only [t__law_letter, N__law_letter, dSeq, dSet, dNext, dRet, dDrop, dIfS, dFor, dPut, dAsg, dPar, dPar3, dOp, dUn, dVar, dC, dTup, dLst, dNil, dCons, dCall, dCB, dBM, isTy_str, dTB, dAndT, dOrT, dNotT, dAnd, dOr, dNot, dIf, dTru, truth, dChain, dSl, dPart, dNoPart,  dLc,  dRng1, dRng2,  dEnumT, dgName, dgTup, dgCons, dgNil, dDct0, dYes, dCont, dBreak, dwipe, dstart, rAdd_int, rAdd_str, rAdd_tup, rSub_int, rMul_int, rMod_int, rFdiv_int, rNeg_int, rIs_non, rIsNot_non, rIs_bl, DD.isNonD,  rIx_str, rIx_tup, rIx_scr, rLen_str, rLen_tup, rLen_scr, rTuple_tup, rList_tup, rIn_s1, rIn_s2, rIn_s3, rMax2_int, rMin2_int, rInt1_int, rSl_str, rSl_tup, rev_app, revK_tup, seqX_app, seqK_tup, seqK_str, zip_app, zipK_tup, rLt_int, rLe_int, rGt_int, rGe_int, rLt_str, rLe_str, rGt_str, rGe_str, rOrd_encS, DD.rEq_int, DD.rEq_str, DD.rEq_bl, DD.rNe_int, DD.rNe_str, rEq_encS, rEq_encO, rEq_OS, atI_0, atI_1, atI_2, atI_3, atI_4, atI_5, atI_snoc, ob_some, gup_same, List.map_cons, List.map_nil, List.length_cons, List.length_nil, List.cons_append, List.nil_append, List.getElem?_cons_zero, List.getElem?_cons_succ, List.set_cons_zero, List.set_cons_succ, List.replicate_zero, List.replicate_succ, Nat.reduceSub, Nat.reduceAdd, if_true, if_false, Bool.false_eq_true, Bool.not_true, Bool.not_false, true_and, and_true]
  refine mix_use ⟨by decide, by decide, by decide⟩ fun r h0 h1 => ?_
  have e : ∀ c ∈ (Str.ofString "abc xyz!ABZ~0189-\\/()[]{}<>?*+=,.;:'\"_^|&#@$QRST").cps.toList, 32 ≤ c ∧ c ≤ 126 ∧ c ≠ 37 := by decide +kernel
  have el : (Str.ofString "abc xyz!ABZ~0189-\\/()[]{}<>?*+=,.;:'\"_^|&#@$QRST").cps.toList.length = (Str.ofString "abc xyz!ABZ~0189-\\/()[]{}<>?*+=,.;:'\"_^|&#@$QRST").length := by decide +kernel
  obtain ⟨a, ha, ea⟩ := atI_int h0 (by rw [el]; exact h1)
  show ob (atI (Str.ofString "abc xyz!ABZ~0189-\\/()[]{}<>?*+=,.;:'\"_^|&#@$QRST").cps.toList r) _
  rw [ea]
  obtain ⟨e1, e2, e3⟩ := e a ha
  exact ⟨a, rfl, e1, e2, e3⟩
theorem good__law_letter {P : Program} {w : World} {K : PySem.W.Frag} {mg : Str → Option Value} {base : Heap} (D0 : DefAt K mg "_law_letter" (top 27)) (g_len : mg "len" = none) (G__law_mix : Good P w K mg base "_law_mix" ps__law_mix 1 sp__law_mix) : Good P w K mg base "_law_letter" ps__law_letter 2 sp__law_letter :=
  goodQ D0 sc__law_letter t__law_letter bind__law_letter len__law_letter (fun f cdv A outer s H E hr => der__law_letter g_len G__law_mix f cdv A outer s H E hr) pure__law_letter
def pre__law_value (ds : List D) : Prop := ∃ (c : Int) (b : Bool), ds = [D.int c, D.str (if b = true then "bold" else "link")]
def rel__law_value (ds : List D) (d : D) : Prop := ∃ v : Val, d = encV v ∧ ∀ (c : Int) (b : Bool), ds = [D.int c, D.str (if b = true then "bold" else "link")] → (match v with | .b _ => b = true | .n => b = false | .t x => b = false ∧ 1 ≤ x.length ∧ x.length ≤ 8)
def sp__law_value : DSp := spQ pre__law_value rel__law_value
abbrev N__law_value : List Str := ["_law_cell_here", "_law_kind"]
abbrev ps__law_value : List Str := ["_law_cell_here", "_law_kind"]
def t__law_value : DTS :=
  (dSeq (dIfS (dTB (dOp rEq (dVar 1) (dC (.str "bold")))) (dRet (dOp rEq (dCall sp__law_mix ex0 (dCons (dVar 0) (dCons (dC (.int 9967)) (dCons (dC (.int 2)) dNil)))) (dC (.int 0)))) dNext) (dRet (dOp rIx (dTup (dCons (dC .non) (dCons (dC (.str "a")) (dCons (dC (.str "go")) (dCons (dC (.str "zzzzzzzz")) (dCons (dC (.str "link")) (dCons (dC (.str "a")) dNil))))))) (dCall sp__law_mix ex0 (dCons (dVar 0) (dCons (dC (.int 9949)) (dCons (dC (.int 6)) dNil)))))))
theorem sc__law_value : FnScope N__law_value ps__law_value (defScope (top 28)) := ⟨rfl, rfl, rfl, by decide +kernel, rfl, by decide +kernel, by decide +kernel⟩
theorem der__law_value {P : Program} {w : World} {K : PySem.W.Frag} {mg : Str → Option Value} {base : Heap} (G__law_mix : Good P w K mg base "_law_mix" ps__law_mix 1 sp__law_mix) (f : Addr) (cdv : Value) (A : Around) (outer : List Env) (s : Shared) (H : Hp) (E : XK)
    (hr : Room 1 (A.deeper (envOfC "_law_value" (defScope (top 28)) s.heap.objs.size f cdv))) :
    DSs (cxOf CX0 P w K mg base N__law_value "_law_value" (defScope (top 28)) f cdv A outer s H E).nox (Rg.top K w) (defBody (top 28)) t__law_value := by
  have S := sc__law_value
  exact (dss_cons (ds_if (dt_cmp (op_eqD hr.units) (de_var (pv 1)) de_str (by rfl)) (dss_one (ds_ret (de_cmp (op_eqD hr.units) (de_callG G__law_mix hr rfl (da_cons (de_var (pv 0)) (da_cons de_int (da_cons de_int da_nil)))) de_int (by rfl)))) dss_nil)
    (dss_one (ds_ret (de_ix (ix_D hr.units) (de_tup (da_cons de_non (da_cons de_str (da_cons de_str (da_cons de_str (da_cons de_str (da_cons de_str da_nil))))))) (de_callG G__law_mix hr rfl (da_cons (de_var (pv 0)) (da_cons de_int (da_cons de_int da_nil))))))))
theorem bind__law_value (kV doc pm : Value) (an : Option Addr) (cdv ct : Value) (us : List Value) (hl : us.length = ps__law_value.length) : bindArgs (PySem.W.fnOf "_law_value" "_law_value" (defArgs (top 28)) (defBody (top 28)) (defScope (top 28)) .none kV doc pm an cdv ct) ⟨us, []⟩ = pure (ps__law_value.zip us) := match us, hl with | [_, _], _ => rfl
theorem len__law_value : ∀ ds, pre__law_value ds → ds.length = ps__law_value.length := by
  rintro ds ⟨c, b, rfl⟩; rfl
theorem pure__law_value : ∀ ds, pre__law_value ds → t__law_value { nx := fun _ _ => rel__law_value ds .non, rt := fun d' _ => rel__law_value ds d' } (dstart N__law_value ds) g0 := by
  rintro ds ⟨c, b, rfl⟩
  simp only [t__law_value, N__law_value, dSeq, dSet, dNext, dRet, dDrop, dIfS, dFor, dPut, dAsg, dPar, dPar3, dOp, dUn, dVar, dC, dTup, dLst, dNil, dCons, dCall, dCB, dBM, isTy_str, dTB, dAndT, dOrT, dNotT, dAnd, dOr, dNot, dIf, dTru, truth, dChain, dSl, dPart, dNoPart,  dLc,  dRng1, dRng2,  dEnumT, dgName, dgTup, dgCons, dgNil, dDct0, dYes, dCont, dBreak, dwipe, dstart, rAdd_int, rAdd_str, rAdd_tup, rSub_int, rMul_int, rMod_int, rFdiv_int, rNeg_int, rIs_non, rIsNot_non, rIs_bl, DD.isNonD,  rIx_str, rIx_tup, rIx_scr, rLen_str, rLen_tup, rLen_scr, rTuple_tup, rList_tup, rIn_s1, rIn_s2, rIn_s3, rMax2_int, rMin2_int, rInt1_int, rSl_str, rSl_tup, rev_app, revK_tup, seqX_app, seqK_tup, seqK_str, zip_app, zipK_tup, rLt_int, rLe_int, rGt_int, rGe_int, rLt_str, rLe_str, rGt_str, rGe_str, rOrd_encS, DD.rEq_int, DD.rEq_str, DD.rEq_bl, DD.rNe_int, DD.rNe_str, rEq_encS, rEq_encO, rEq_OS, atI_0, atI_1, atI_2, atI_3, atI_4, atI_5, atI_snoc, ob_some, gup_same, List.map_cons, List.map_nil, List.length_cons, List.length_nil, List.cons_append, List.nil_append, List.getElem?_cons_zero, List.getElem?_cons_succ, List.set_cons_zero, List.set_cons_succ, List.replicate_zero, List.replicate_succ, Nat.reduceSub, Nat.reduceAdd, if_true, if_false, Bool.false_eq_true, Bool.not_true, Bool.not_false, true_and, and_true]
  have ne : ((Str.ofString "link") == (Str.ofString "bold")) = false := by decide +kernel
  cases b with
  | true =>
    rw [if_pos rfl]
    refine mix_use ⟨by decide, by decide, by decide⟩ fun r h0 h1 => ?_
    show DD.rEq (D.int r) (D.int 0) _ _
    rw [DD.rEq_int]
    refine ⟨.b (r == 0), rfl, fun c' b' e => ?_⟩
    cases b' with
    | true => rfl
    | false =>
      exfalso
      have e2 : (Str.ofString "bold") = Str.ofString "link" := by
        simp only [if_true, Bool.false_eq_true, if_false, List.cons.injEq, D.str.injEq, and_true] at e
        exact e.2
      revert e2
      decide +kernel
  | false =>
    rw [if_neg (by simp only [Bool.false_eq_true, if_false]; rw [ne]; exact Bool.false_ne_true)]
    refine mix_use ⟨by decide, by decide, by decide⟩ fun r h0 h1 => ?_
    have hb : ∀ (c' : Int) (b' : Bool), [D.int c, D.str (if false = true then "bold" else "link")] = [D.int c', D.str (if b' = true then "bold" else "link")] → b' = false := by
      intro c' b' e
      cases b' with
      | false => rfl
      | true =>
        exfalso
        have e2 : (Str.ofString "link") = Str.ofString "bold" := by
          simp only [if_true, Bool.false_eq_true, if_false, List.cons.injEq, D.str.injEq, and_true] at e
          exact e.2
        revert e2
        decide +kernel
    have h6 : r = 0 ∨ r = 1 ∨ r = 2 ∨ r = 3 ∨ r = 4 ∨ r = 5 := by omega
    rcases h6 with z | z | z | z | z | z <;> subst z <;> simp only [rIx_tup, atI_0, atI_1, atI_2, atI_3, atI_4, atI_5, ob_some]
    · exact ⟨.n, rfl, fun c' b' e => hb c' b' e⟩
    · exact ⟨.t "a", rfl, fun c' b' e => ⟨hb c' b' e, by decide +kernel, by decide +kernel⟩⟩
    · exact ⟨.t "go", rfl, fun c' b' e => ⟨hb c' b' e, by decide +kernel, by decide +kernel⟩⟩
    · exact ⟨.t "zzzzzzzz", rfl, fun c' b' e => ⟨hb c' b' e, by decide +kernel, by decide +kernel⟩⟩
    · exact ⟨.t "link", rfl, fun c' b' e => ⟨hb c' b' e, by decide +kernel, by decide +kernel⟩⟩
    · exact ⟨.t "a", rfl, fun c' b' e => ⟨hb c' b' e, by decide +kernel, by decide +kernel⟩⟩
theorem good__law_value {P : Program} {w : World} {K : PySem.W.Frag} {mg : Str → Option Value} {base : Heap} (D0 : DefAt K mg "_law_value" (top 28)) (G__law_mix : Good P w K mg base "_law_mix" ps__law_mix 1 sp__law_mix) : Good P w K mg base "_law_value" ps__law_value 2 sp__law_value :=
  goodQ D0 sc__law_value t__law_value bind__law_value len__law_value (fun f cdv A outer s H E hr => der__law_value G__law_mix f cdv A outer s H E hr) pure__law_value
end K

namespace K
open PySem PySem.Spec PyProof.Rows L2 DD M
/-! ### _law_deeds -/
def NmS (x : Str) : Prop := x = "a" ∨ x = "b" ∨ x = "z"
def Nm (m : Int) (L : List Deed) : Prop := ∀ d ∈ L, 1 ≤ d.st.1 ∧ d.st.1 ≤ m ∧ NmS d.st.2 ∧ ∀ s a c, d = .write s a c → 32 ≤ c ∧ c ≤ 126 ∧ c ≠ 37
def pre__law_deeds (ds : List D) : Prop := ∃ (c : Int) (m : Nat), ds = [D.int c, D.int (m : Int)] ∧ m ≤ 1000
def rel__law_deeds (ds : List D) (d : D) : Prop := ∃ L : List Deed, d = D.tup (L.map M.encD) ∧ Wf L ∧ ∀ (c : Int) (m : Nat), ds = [D.int c, D.int (m : Int)] → L.length = m ∧ Nm (2 * m) L
def sp__law_deeds : DSp := spQ pre__law_deeds rel__law_deeds
abbrev N__law_deeds : List Str := ["_law_cell_here", "_law_many", "_law_found", "_law_letters", "_law_others", "_law_number", "_law_k", "_law_seed", "_law_way", "_law_name", "_law_stamp", "_law_some", "_law_ahead", "_law_kind", "_law_first", "_law_end", "_law_goals", "_law_word"]
abbrev ps__law_deeds : List Str := ["_law_cell_here", "_law_many"]
def t__law_deeds : DTS :=
  (dSeq (dPar3 2 3 4 (dCons (dLst dNil) (dCons (dLst dNil) (dCons (dLst dNil) dNil)))) (dSeq (dSet 5 (dC (.int 0))) (dSeq (dFor (dRng1 (dCons (dVar 1) dNil)) (dgName 6) (dSeq (dSet 7 (dOp rAdd (dVar 0) (dOp rMul (dC (.int 31)) (dVar 6)))) (dSeq (dSet 8 (dCall sp__law_mix ex0 (dCons (dVar 7) (dCons (dC (.int 9941)) (dCons (dC (.int 10)) dNil))))) (dSeq (dSet 9 (dOp rIx (dC (.str "abz")) (dCall sp__law_mix ex0 (dCons (dVar 7) (dCons (dC (.int 9931)) (dCons (dC (.int 3)) dNil)))))) (dSeq (dIfS (dOrT (dTB (dOp rEq (dVar 2) (dLst dNil))) (dOrT (dTB (dOp (rOrd .ge) (dOp rIx (dOp rIx (dOp rIx (dVar 2) (dUn rNeg (dC (.int 1)))) (dC (.int 1))) (dC (.int 1))) (dVar 9))) (dTB (dOp (rOrd .gt) (dCall sp__law_mix ex0 (dCons (dVar 7) (dCons (dC (.int 9929)) (dCons (dC (.int 3)) dNil)))) (dC (.int 0)))))) (dSet 5 (dOp rAdd (dOp rAdd (dVar 5) (dC (.int 1))) (dOp rFdiv (dCall sp__law_mix ex0 (dCons (dVar 7) (dCons (dC (.int 9923)) (dCons (dC (.int 3)) dNil)))) (dC (.int 2))))) dNext) (dSeq (dSet 10 (dTup (dCons (dVar 5) (dCons (dVar 9) dNil)))) (dSeq (dIfS (dOrT (dTB (dOp (rOrd .lt) (dVar 8) (dC (.int 5)))) (dTB (dOp rEq (dVar 3) (dLst dNil)))) (dSeq (dSet 11 (dOp rAdd (dLst (dCons (dC .non) dNil)) (dVar 3))) (dSeq (dSet 12 (dOp rIx (dVar 11) (dCall sp__law_mix ex0 (dCons (dVar 7) (dCons (dC (.int 9907)) (dCons (dCB rLen (dCons (dVar 11) dNil)) dNil)))))) (dSeq (dIfS (dTB (dOp rEq (dCall sp__law_mix ex0 (dCons (dVar 7) (dCons (dC (.int 9901)) (dCons (dC (.int 2)) dNil)))) (dC (.int 0)))) (dSet 12 (dOp rIx (dVar 11) (dUn rNeg (dC (.int 1))))) dNext) (dSeq (dDrop (dBM "list" rAppend (dVar 2) (dCons (dTup (dCons (dC (.str "write")) (dCons (dVar 10) (dCons (dVar 12) (dCons (dCall sp__law_letter ex0 (dCons (dOp rAdd (dVar 7) (dC (.int 7))) dNil)) dNil))))) dNil))) (dDrop (dBM "list" rAppend (dVar 3) (dCons (dVar 10) dNil))))))) (dIfS (dTB (dOp rEq (dVar 8) (dC (.int 5)))) (dDrop (dBM "list" rAppend (dVar 2) (dCons (dTup (dCons (dC (.str "cut")) (dCons (dVar 10) (dCons (dOp rIx (dVar 3) (dCall sp__law_mix ex0 (dCons (dVar 7) (dCons (dC (.int 9887)) (dCons (dCB rLen (dCons (dVar 3) dNil)) dNil))))) dNil)))) dNil))) (dIfS (dTB (dOp (rOrd .lt) (dVar 8) (dC (.int 8)))) (dSeq (dSet 13 (dOp rIx (dTup (dCons (dC (.str "bold")) (dCons (dC (.str "link")) dNil))) (dCall sp__law_mix ex0 (dCons (dVar 7) (dCons (dC (.int 9883)) (dCons (dC (.int 2)) dNil)))))) (dSeq (dSet 14 (dOp rIx (dVar 3) (dCall sp__law_mix ex0 (dCons (dVar 7) (dCons (dC (.int 9871)) (dCons (dCB rLen (dCons (dVar 3) dNil)) dNil)))))) (dSeq (dSet 15 (dOp rIx (dVar 3) (dCall sp__law_mix ex0 (dCons (dVar 7) (dCons (dC (.int 9859)) (dCons (dCB rLen (dCons (dVar 3) dNil)) dNil)))))) (dSeq (dIfS (dAndT (dTB (dOp rEq (dVar 13) (dC (.str "bold")))) (dTB (dOp rEq (dCall sp__law_mix ex0 (dCons (dVar 7) (dCons (dC (.int 9857)) (dCons (dC (.int 3)) dNil)))) (dC (.int 0))))) (dSet 15 (dC .non)) dNext) (dDrop (dBM "list" rAppend (dVar 2) (dCons (dTup (dCons (dC (.str "mark")) (dCons (dVar 10) (dCons (dVar 13) (dCons (dVar 14) (dCons (dVar 15) (dCons (dCall sp__law_value ex0 (dCons (dOp rAdd (dVar 7) (dC (.int 3))) (dCons (dVar 13) dNil))) dNil))))))) dNil))))))) (dSeq (dSet 16 (dOp rAdd (dVar 3) (dVar 4))) (dSeq (dSet 17 (dOp rIx (dTup (dCons (dC (.str "off")) (dCons (dC (.str "on")) (dCons (dC (.str "off")) dNil)))) (dCall sp__law_mix ex0 (dCons (dVar 7) (dCons (dC (.int 9851)) (dCons (dC (.int 3)) dNil)))))) (dDrop (dBM "list" rAppend (dVar 2) (dCons (dTup (dCons (dVar 17) (dCons (dVar 10) (dCons (dOp rIx (dVar 16) (dCall sp__law_mix ex0 (dCons (dVar 7) (dCons (dC (.int 9839)) (dCons (dCB rLen (dCons (dVar 16) dNil)) dNil))))) dNil)))) dNil)))))))) (dIfS (dTB (dOp rIn (dOp rIx (dOp rIx (dVar 2) (dUn rNeg (dC (.int 1)))) (dC (.int 0))) (dTup (dCons (dC (.str "cut")) (dCons (dC (.str "mark")) dNil))))) (dDrop (dBM "list" rAppend (dVar 4) (dCons (dVar 10) dNil))) dNext)))))))) (dRet (dCB rTuple (dCons (dVar 2) dNil))))))
theorem sc__law_deeds : FnScope N__law_deeds ps__law_deeds (defScope (top 29)) := ⟨rfl, rfl, rfl, by decide +kernel, rfl, by decide +kernel, by decide +kernel⟩
theorem der__law_deeds {P : Program} {w : World} {K : PySem.W.Frag} {mg : Str → Option Value} {base : Heap} (g_len : mg "len" = none) (g_range : mg "range" = none) (g_tuple : mg "tuple" = none) (G__law_letter : Good P w K mg base "_law_letter" ps__law_letter 2 sp__law_letter) (G__law_mix : Good P w K mg base "_law_mix" ps__law_mix 1 sp__law_mix) (G__law_value : Good P w K mg base "_law_value" ps__law_value 2 sp__law_value) (f : Addr) (cdv : Value) (A : Around) (outer : List Env) (s : Shared) (H : Hp) (E : XK)
    (hr : Room 2 (A.deeper (envOfC "_law_deeds" (defScope (top 29)) s.heap.objs.size f cdv))) :
    DSs (cxOf CX0 P w K mg base N__law_deeds "_law_deeds" (defScope (top 29)) f cdv A outer s H E).nox (Rg.top K w) (defBody (top 29)) t__law_deeds := by
  have S := sc__law_deeds
  exact (dss_cons (ds_par3 (i := 2) (j := 3) (l := 4) rfl S.nd rfl rfl rfl (by decide) (by decide) (by decide) rfl rfl rfl (da_cons (de_lst da_nil) (da_cons (de_lst da_nil) (da_cons (de_lst da_nil) da_nil))) rfl)
    (dss_cons (ds_set (i := 5) S.nd rfl (by first | exact Or.inl rfl | exact Or.inr rfl) de_int)
    (dss_cons (ds_for (vs := [6]) PassesOwn.never rfl (di_range1 rfl g_range (da_cons (de_var (pv 1)) da_nil)) (dg_name (pg_name (i := 6) S.nd rfl (by first | exact Or.inl rfl | exact Or.inr rfl)) (by decide) (by decide)) (dss_cons (ds_set (i := 7) S.nd rfl (by first | exact Or.inl rfl | exact Or.inr rfl) (de_op op_addD (de_var (pv 0)) (de_op op_mulD de_int (de_var (pv 6)))))
    (dss_cons (ds_set (i := 8) S.nd rfl (by first | exact Or.inl rfl | exact Or.inr rfl) (de_callG G__law_mix hr rfl (da_cons (de_var (pv 7)) (da_cons de_int (da_cons de_int da_nil)))))
    (dss_cons (ds_set (i := 9) S.nd rfl (by first | exact Or.inl rfl | exact Or.inr rfl) (de_ix (ix_D hr.units) de_str (de_callG G__law_mix hr rfl (da_cons (de_var (pv 7)) (da_cons de_int (da_cons de_int da_nil))))))
    (dss_cons (ds_if (dt_w (dw_or (dt_cmp (op_eqD hr.units) (de_var (pv 2)) (de_lst da_nil) (by rfl)) (dw_or (dt_cmp (op_geD hr.units) (de_ix (ix_D hr.units) (de_ix (ix_D hr.units) (de_ix (ix_D hr.units) (de_var (pv 2)) (de_un op_negD de_int)) de_int) de_int) (de_var (pv 9)) (by rfl)) (dw_or1 (dt_cmp (op_gtD hr.units) (de_callG G__law_mix hr rfl (da_cons (de_var (pv 7)) (da_cons de_int (da_cons de_int da_nil)))) de_int (by rfl)))))) (dss_one (ds_set (i := 5) S.nd rfl (by first | exact Or.inl rfl | exact Or.inr rfl) (de_op op_addD (de_op op_addD (de_var (pv 5)) de_int) (de_op op_fdivD (de_callG G__law_mix hr rfl (da_cons (de_var (pv 7)) (da_cons de_int (da_cons de_int da_nil)))) de_int)))) dss_nil)
    (dss_cons (ds_set (i := 10) S.nd rfl (by first | exact Or.inl rfl | exact Or.inr rfl) (de_tup (da_cons (de_var (pv 5)) (da_cons (de_var (pv 9)) da_nil))))
    (dss_cons (ds_if (dt_w (dw_or (dt_cmp (op_ltD hr.units) (de_var (pv 8)) de_int (by rfl)) (dw_or1 (dt_cmp (op_eqD hr.units) (de_var (pv 3)) (de_lst da_nil) (by rfl))))) (dss_cons (ds_set (i := 11) S.nd rfl (by first | exact Or.inl rfl | exact Or.inr rfl) (de_op op_addD (de_lst (da_cons de_non da_nil)) (de_var (pv 3))))
    (dss_cons (ds_set (i := 12) S.nd rfl (by first | exact Or.inl rfl | exact Or.inr rfl) (de_ix (ix_D hr.units) (de_var (pv 11)) (de_callG G__law_mix hr rfl (da_cons (de_var (pv 7)) (da_cons de_int (da_cons (de_callB call_lenD rfl g_len rfl (da_cons (de_var (pv 11)) da_nil)) da_nil))))))
    (dss_cons (ds_if (dt_cmp (op_eqD hr.units) (de_callG G__law_mix hr rfl (da_cons (de_var (pv 7)) (da_cons de_int (da_cons de_int da_nil)))) de_int (by rfl)) (dss_one (ds_set (i := 12) S.nd rfl (by first | exact Or.inl rfl | exact Or.inr rfl) (de_ix (ix_D hr.units) (de_var (pv 11)) (de_un op_negD de_int)))) dss_nil)
    (dss_cons (ds_expr (de_bm F.plainAttrs_list F.slot_list_append F.type_list_append mt_appendD (de_var (pv 2)) (da_cons (de_tup (da_cons de_str (da_cons (de_var (pv 10)) (da_cons (de_var (pv 12)) (da_cons (de_callG G__law_letter hr rfl (da_cons (de_op op_addD (de_var (pv 7)) de_int) da_nil)) da_nil))))) da_nil)))
    (dss_one (ds_expr (de_bm F.plainAttrs_list F.slot_list_append F.type_list_append mt_appendD (de_var (pv 3)) (da_cons (de_var (pv 10)) da_nil)))))))) (dss_one (ds_if (dt_cmp (op_eqD hr.units) (de_var (pv 8)) de_int (by rfl)) (dss_one (ds_expr (de_bm F.plainAttrs_list F.slot_list_append F.type_list_append mt_appendD (de_var (pv 2)) (da_cons (de_tup (da_cons de_str (da_cons (de_var (pv 10)) (da_cons (de_ix (ix_D hr.units) (de_var (pv 3)) (de_callG G__law_mix hr rfl (da_cons (de_var (pv 7)) (da_cons de_int (da_cons (de_callB call_lenD rfl g_len rfl (da_cons (de_var (pv 3)) da_nil)) da_nil))))) da_nil)))) da_nil)))) (dss_one (ds_if (dt_cmp (op_ltD hr.units) (de_var (pv 8)) de_int (by rfl)) (dss_cons (ds_set (i := 13) S.nd rfl (by first | exact Or.inl rfl | exact Or.inr rfl) (de_ix (ix_D hr.units) (de_tup (da_cons de_str (da_cons de_str da_nil))) (de_callG G__law_mix hr rfl (da_cons (de_var (pv 7)) (da_cons de_int (da_cons de_int da_nil))))))
    (dss_cons (ds_set (i := 14) S.nd rfl (by first | exact Or.inl rfl | exact Or.inr rfl) (de_ix (ix_D hr.units) (de_var (pv 3)) (de_callG G__law_mix hr rfl (da_cons (de_var (pv 7)) (da_cons de_int (da_cons (de_callB call_lenD rfl g_len rfl (da_cons (de_var (pv 3)) da_nil)) da_nil))))))
    (dss_cons (ds_set (i := 15) S.nd rfl (by first | exact Or.inl rfl | exact Or.inr rfl) (de_ix (ix_D hr.units) (de_var (pv 3)) (de_callG G__law_mix hr rfl (da_cons (de_var (pv 7)) (da_cons de_int (da_cons (de_callB call_lenD rfl g_len rfl (da_cons (de_var (pv 3)) da_nil)) da_nil))))))
    (dss_cons (ds_if (dt_w (dw_and (dt_cmp (op_eqD hr.units) (de_var (pv 13)) de_str (by rfl)) (dw_and1 (dt_cmp (op_eqD hr.units) (de_callG G__law_mix hr rfl (da_cons (de_var (pv 7)) (da_cons de_int (da_cons de_int da_nil)))) de_int (by rfl))))) (dss_one (ds_set (i := 15) S.nd rfl (by first | exact Or.inl rfl | exact Or.inr rfl) de_non)) dss_nil)
    (dss_one (ds_expr (de_bm F.plainAttrs_list F.slot_list_append F.type_list_append mt_appendD (de_var (pv 2)) (da_cons (de_tup (da_cons de_str (da_cons (de_var (pv 10)) (da_cons (de_var (pv 13)) (da_cons (de_var (pv 14)) (da_cons (de_var (pv 15)) (da_cons (de_callG G__law_value hr rfl (da_cons (de_op op_addD (de_var (pv 7)) de_int) (da_cons (de_var (pv 13)) da_nil))) da_nil))))))) da_nil)))))))) (dss_cons (ds_set (i := 16) S.nd rfl (by first | exact Or.inl rfl | exact Or.inr rfl) (de_op op_addD (de_var (pv 3)) (de_var (pv 4))))
    (dss_cons (ds_set (i := 17) S.nd rfl (by first | exact Or.inl rfl | exact Or.inr rfl) (de_ix (ix_D hr.units) (de_tup (da_cons de_str (da_cons de_str (da_cons de_str da_nil)))) (de_callG G__law_mix hr rfl (da_cons (de_var (pv 7)) (da_cons de_int (da_cons de_int da_nil))))))
    (dss_one (ds_expr (de_bm F.plainAttrs_list F.slot_list_append F.type_list_append mt_appendD (de_var (pv 2)) (da_cons (de_tup (da_cons (de_var (pv 17)) (da_cons (de_var (pv 10)) (da_cons (de_ix (ix_D hr.units) (de_var (pv 16)) (de_callG G__law_mix hr rfl (da_cons (de_var (pv 7)) (da_cons de_int (da_cons (de_callB call_lenD rfl g_len rfl (da_cons (de_var (pv 16)) da_nil)) da_nil))))) da_nil)))) da_nil)))))))))))
    (dss_one (ds_if (dt_cmp (op_inD hr.units) (de_ix (ix_D hr.units) (de_ix (ix_D hr.units) (de_var (pv 2)) (de_un op_negD de_int)) de_int) (de_tup (da_cons de_str (da_cons de_str da_nil))) (by rfl)) (dss_one (ds_expr (de_bm F.plainAttrs_list F.slot_list_append F.type_list_append mt_appendD (de_var (pv 4)) (da_cons (de_var (pv 10)) da_nil)))) dss_nil)))))))))
    (dss_one (ds_ret (de_callTy call_tupleD rfl g_tuple rfl (da_cons (de_var (pv 2)) da_nil)))))))
theorem bind__law_deeds (kV doc pm : Value) (an : Option Addr) (cdv ct : Value) (us : List Value) (hl : us.length = ps__law_deeds.length) : bindArgs (PySem.W.fnOf "_law_deeds" "_law_deeds" (defArgs (top 29)) (defBody (top 29)) (defScope (top 29)) .none kV doc pm an cdv ct) ⟨us, []⟩ = pure (ps__law_deeds.zip us) := match us, hl with | [_, _], _ => rfl
theorem len__law_deeds : ∀ ds, pre__law_deeds ds → ds.length = ps__law_deeds.length := by
  rintro ds ⟨c, m, rfl, _⟩; rfl
/-- what stands at a turn -/
structure Dr (pf pl po : Addr) (i : Nat) (n : Int) (L : List Deed) (G : DG) : Prop where
  wf : Wf L
  len : L.length = i
  nm : Nm n L
  n0 : 0 ≤ n
  n2 : n ≤ 2 * i
  f : G pf = some (.lst (L.map M.encD))
  l : G pl = some (.lst ((lets L).map encS))
  o : G po = some (.lst ((oths L).map encS))
  fl : pf ≠ pl
  fo : pf ≠ po
  lo : pl ≠ po
theorem flat_encV (v : Val) : flat (encV v) = true := by cases v <;> rfl
theorem flat_encD (d : Deed) : flat (M.encD d) = true := by
  cases d with
  | write s a c => show (true && (true && (flat (encO a) && (true && true)))) = true; rw [flat_encO]; rfl
  | cut s g => rfl
  | mark s b f e v => show (true && (true && (true && (true && (flat (encO e) && (flat (encV v) && true)))))) = true; rw [flat_encO, flat_encV]; rfl
  | sw on s g => rfl
theorem flats_map {α : Type} (f : α → D) (h : ∀ a, flat (f a) = true) : ∀ l : List α, flats (l.map f) = true
  | [] => rfl
  | a :: l => by show (flat (f a) && flats (l.map f)) = true; rw [h a, flats_map f h l]; rfl
theorem dp_map {α : Type} (f : α → D) (n : Nat) (h : ∀ a, dpP (toP (f a)) ≤ n) : ∀ l : List α, dpPs (toPs (l.map f)) ≤ n
  | [] => Nat.zero_le _
  | a :: l => by
    show max (dpP (toP (f a))) (dpPs (toPs (l.map f))) ≤ n
    have := h a
    have := dp_map f n h l
    omega
theorem dp_encV (v : Val) : dpP (toP (encV v)) = 0 := by cases v <;> rfl
theorem dp_encD (d : Deed) : dpP (toP (M.encD d)) ≤ 3 := by
  cases d with
  | write s a c =>
    show max 0 (max 1 (max (dpP (toP (encO a))) (max 0 0))) + 1 ≤ 3
    have := dp_encO a
    omega
  | cut s g => show max 0 (max 1 (max 1 0)) + 1 ≤ 3; omega
  | mark s b f e v =>
    show max 0 (max 1 (max 0 (max 1 (max (dpP (toP (encO e))) (max (dpP (toP (encV v))) 0))))) + 1 ≤ 3
    have := dp_encO e
    rw [dp_encV]
    omega
  | sw on s g => show max 0 (max 1 (max 1 0)) + 1 ≤ 3; omega

theorem idx_mem {α : Type} (enc : α → D) {l : List α} {r : Int} (h0 : 0 ≤ r) (h1 : r < ((l.map enc).length : Nat)) : ∃ a ∈ l, atI (l.map enc) r = some (enc a) := by
  obtain ⟨d, hd, e⟩ := atI_int h0 h1
  obtain ⟨a, ha, rfl⟩ := List.mem_map.mp hd
  exact ⟨a, ha, e⟩
theorem ltS_trans {a b c : Stp} (h1 : ltS a b = true) (h2 : ltS b c = true) : ltS a c = true := by
  cases h : ltS a c with
  | true => rfl
  | false =>
    have h3 : ltS c a = true ∨ a = c := by
      cases q : ltS c a with
      | true => exact .inl rfl
      | false => exact .inr (ltS_anti h q)
    rcases h3 with h3 | h3
    · have := ltS_tr (ltS_asym h1) (ltS_asym h2)
      have h4 := ltS_tr (ltS_asym h2) (ltS_asym h3)
      rw [h1] at h4
      cases h4
    · subst h3
      rw [ltS_asym h1] at h2
      cases h2
theorem Dr.alloc {pf pl po p : Addr} {i : Nat} {n : Int} {L : List Deed} {G : DG} {o : O} (h : Dr pf pl po i n L G) (hp : G p = none) : Dr pf pl po i n L (gup G p o) := by
  have ne : ∀ {a o'}, G a = some o' → a ≠ p := fun e z => by rw [z, hp] at e; cases e
  exact { h with f := by rw [gup_ne (ne h.f)]; exact h.f, l := by rw [gup_ne (ne h.l)]; exact h.l, o := by rw [gup_ne (ne h.o)]; exact h.o }
theorem atI_at1 {d : Deed} : ∃ r, M.encD d = .tup r ∧ atI r 1 = some (encS d.st) ∧ atI r 0 = some (.str d.word) := by
  cases d <;> exact ⟨_, rfl, atI_1, atI_0⟩
theorem letter_use {c : Int} {G : DG} {Q : DK} {RE : DX} (h : ∀ x : Nat, 32 ≤ x ∧ x ≤ 126 ∧ x ≠ 37 → Q (.str ⟨#[x]⟩) G) : sp__law_letter [.int c] G Q RE :=
  ⟨⟨c, rfl⟩, fun d ⟨x, e, h1⟩ => by subst e; exact h x h1⟩
theorem value_use {c : Int} {b : Bool} {G : DG} {Q : DK} {RE : DX} (h : ∀ v : Val, (match v with | .b _ => b = true | .n => b = false | .t x => b = false ∧ 1 ≤ x.length ∧ x.length ≤ 8) → Q (encV v) G) : sp__law_value [.int c, .str (if b = true then "bold" else "link")] G Q RE :=
  ⟨⟨c, b, rfl⟩, fun d ⟨v, e, h1⟩ => by subst e; exact h v (h1 c b rfl)⟩
theorem nms_abz : ∀ c ∈ (Str.ofString "abz").cps.toList, NmS ⟨#[c]⟩ := by
  intro c hc
  have h : c = 97 ∨ c = 98 ∨ c = 122 := by
    have : (Str.ofString "abz").cps.toList = [97, 98, 122] := by decide +kernel
    rw [this] at hc
    simpa using hc
  rcases h with h | h | h <;> subst h
  · exact .inl (by decide +kernel)
  · exact .inr (.inl (by decide +kernel))
  · exact .inr (.inr (by decide +kernel))
/-- behind the new number -/
structure D1 (pf pl po : Addr) (i : Nat) (n : Int) (L : List Deed) (m : Int) (nm : Str) (G : DG) : Prop where
  d : Dr pf pl po i n L G
  nmS : NmS nm
  le : n ≤ m
  le2 : m ≤ n + 2
  pos : 1 ≤ m
  lt : ∀ e ∈ L, ltS e.st (m, nm) = true
/-- behind the new deed -/
structure D2 (pf pl po : Addr) (i : Nat) (n : Int) (L : List Deed) (d : Deed) (G : DG) : Prop where
  wf : Wf (L ++ [d])
  len : L.length = i
  nm : Nm n (L ++ [d])
  n0 : 0 ≤ n
  n2 : n ≤ 2 * i + 2
  f : G pf = some (.lst ((L ++ [d]).map M.encD))
  l : G pl = some (.lst ((lets (L ++ [d])).map encS))
  o : G po = some (.lst ((oths L).map encS))
  fl : pf ≠ pl
  fo : pf ≠ po
  lo : pl ≠ po
theorem D1.fresh {pf pl po : Addr} {i : Nat} {n m : Int} {L : List Deed} {nm : Str} {G : DG} {p : Addr} {o : O} (h : D1 pf pl po i n L m nm G) (hp : G p = none) : D1 pf pl po i n L m nm (gup G p o) := { h with d := h.d.alloc hp }
/-- the deed is told -/
theorem D1.add {pf pl po : Addr} {i : Nat} {n m : Int} {L : List Deed} {nm : Str} {G : DG} (h : D1 pf pl po i n L m nm G) (d : Deed) (hd : d.st = (m, nm)) (hf : Fit L d) (hc : ∀ s a c, d = .write s a c → 32 ≤ c ∧ c ≤ 126 ∧ c ≠ 37) (hw : d.isW = none) :
    D2 pf pl po i m L d (gup G pf (.lst (L.map M.encD ++ [M.encD d]))) := by
  refine ⟨.snoc h.d.wf hf (by rw [hd]; exact h.lt), h.d.len, ?_, by have := h.pos; omega, by have := h.d.n2; have := h.le2; omega, by rw [gup_same]; simp, ?_, ?_, h.d.fl, h.d.fo, h.d.lo⟩
  · intro e he
    rcases List.mem_append.mp he with he | he
    · obtain ⟨a, b, c, d'⟩ := h.d.nm e he
      exact ⟨a, Int.le_trans b h.le, c, d'⟩
    · rw [List.mem_singleton] at he
      subst he
      rw [hd]
      exact ⟨h.pos, Int.le_refl _, h.nmS, hc⟩
  · rw [gup_ne (Ne.symm h.d.fl), h.d.l, lets_snoc, hw]
    simp
  · rw [gup_ne (Ne.symm h.d.fo), h.d.o]
theorem D1.addW {pf pl po : Addr} {i : Nat} {n m : Int} {L : List Deed} {nm : Str} {G : DG} (h : D1 pf pl po i n L m nm G) {a : Option Stp} {c : Nat} (hf : ∀ s, a = some s → s ∈ lets L) (hc : 32 ≤ c ∧ c ≤ 126 ∧ c ≠ 37) :
    D2 pf pl po i m L (.write (m, nm) a c) (gup (gup G pf (.lst (L.map M.encD ++ [M.encD (.write (m, nm) a c)]))) pl (.lst ((lets L).map encS ++ [encS (m, nm)]))) := by
  refine ⟨.snoc h.d.wf hf h.lt, h.d.len, ?_, by have := h.pos; omega, by have := h.d.n2; have := h.le2; omega, by rw [gup_ne h.d.fl, gup_same]; simp, ?_, ?_, h.d.fl, h.d.fo, h.d.lo⟩
  · intro e he
    rcases List.mem_append.mp he with he | he
    · obtain ⟨a, b, c, d'⟩ := h.d.nm e he
      exact ⟨a, Int.le_trans b h.le, c, d'⟩
    · rw [List.mem_singleton] at he
      subst he
      exact ⟨h.pos, Int.le_refl _, h.nmS, fun s a c e => by cases e; exact hc⟩
  · rw [gup_same, lets_snoc]
    simp [Deed.isW]
  · rw [gup_ne (Ne.symm h.d.lo), gup_ne (Ne.symm h.d.fo), h.d.o]
end K

namespace K
open PySem PySem.Spec PyProof.Rows L2 DD M
theorem Dr.zero {pf pl po : Addr} (hl : pf ≠ pl) (ho : pf ≠ po) (hlo : pl ≠ po) : Dr pf pl po 0 0 [] (gup (gup (gup g0 pf (.lst [])) pl (.lst [])) po (.lst [])) :=
  ⟨.nil, rfl, fun _ h => (List.not_mem_nil h).elim, Int.le_refl _, by omega, (by rw [gup_ne ho, gup_ne hl, gup_same]; rfl), (by rw [gup_ne hlo, gup_same]; rfl), (by rw [gup_same]; rfl), hl, ho, hlo⟩
theorem word_o (d : Deed) : (Str.ofString "cut" == d.word || Str.ofString "mark" == d.word) = d.isO.isSome := by
  cases d with
  | sw on s g =>
    cases on
    · exact (by decide +kernel : (Str.ofString "cut" == Str.ofString "off" || Str.ofString "mark" == Str.ofString "off") = false)
    · exact (by decide +kernel : (Str.ofString "cut" == Str.ofString "on" || Str.ofString "mark" == Str.ofString "on") = false)
  | write s a c => exact (by decide +kernel : (Str.ofString "cut" == Str.ofString "write" || Str.ofString "mark" == Str.ofString "write") = false)
  | cut s g => exact (by decide +kernel : (Str.ofString "cut" == Str.ofString "cut" || Str.ofString "mark" == Str.ofString "cut") = true)
  | mark s b f e v => exact (by decide +kernel : (Str.ofString "cut" == Str.ofString "mark" || Str.ofString "mark" == Str.ofString "mark") = true)
theorem isO_st {d : Deed} {s : Stp} (h : d.isO = some s) : s = d.st := by cases d <;> simp [Deed.isO] at h <;> exact h.symm
theorem isO_W {d : Deed} {s : Stp} (h : d.isO = some s) : d.isW = none := by cases d <;> simp [Deed.isO] at h <;> rfl
theorem lets_len (L : List Deed) : (lets L).length ≤ L.length := List.length_filterMap_le _ _
theorem oths_len (L : List Deed) : (oths L).length ≤ L.length := List.length_filterMap_le _ _
theorem D2.skip {pf pl po : Addr} {i : Nat} {n : Int} {L : List Deed} {d : Deed} {G : DG} (h : D2 pf pl po i n L d G) (ho : d.isO = none) : Dr pf pl po (i + 1) n (L ++ [d]) G := by
  refine ⟨h.wf, by rw [List.length_append, h.len]; rfl, h.nm, h.n0, by have := h.n2; omega, h.f, h.l, ?_, h.fl, h.fo, h.lo⟩
  rw [h.o, oths_snoc, ho]
  simp
theorem D2.tell {pf pl po : Addr} {i : Nat} {n : Int} {L : List Deed} {d : Deed} {G : DG} (h : D2 pf pl po i n L d G) {s : Stp} (ho : d.isO = some s) : Dr pf pl po (i + 1) n (L ++ [d]) (gup G po (.lst ((oths L).map encS ++ [encS s]))) := by
  refine ⟨h.wf, by rw [List.length_append, h.len]; rfl, h.nm, h.n0, by have := h.n2; omega, by rw [gup_ne h.fo]; exact h.f, by rw [gup_ne h.lo]; exact h.l, ?_, h.fl, h.fo, h.lo⟩
  rw [gup_same, oths_snoc, ho]
  simp
theorem pure__law_deeds : ∀ ds, pre__law_deeds ds → t__law_deeds { nx := fun _ _ => rel__law_deeds ds .non, rt := fun d' _ => rel__law_deeds ds d' } (dstart N__law_deeds ds) g0 := by
  rintro ds ⟨c, m, rfl, hm⟩
  simp only [t__law_deeds, N__law_deeds, set_app, drop_app, ret_app, asg_app, par_app, par3_app, put_app, next_app, cont_app, break_app, seq_set, seq_drop, seq_ret, seq_asg, seq_par, seq_par3, seq_put, seq_next, dOp, dUn, dVar, dC, dTup, dLst, dNil, dCons, dCall, dCB, dBM, isTy_str, dTB, dAndT, dOrT, dNotT, dAnd, dOr, dNot, dIf, dTru, truth, dChain, dSl, dPart, dNoPart,  dLc,  dRng1, dRng2,  dEnumT, dgName, dgTup, dgCons, dgNil, dDct0, dYes, dwipe, dstart, rAdd_int, rAdd_str, rAdd_tup, rSub_int, rMul_int, rMod_int, rFdiv_int, rNeg_int, rIs_non, rIsNot_non, rIs_bl, DD.isNonD,  rIx_str, rIx_tup, rIx_scr, rLen_str, rLen_tup, rLen_scr, rTuple_tup, rList_tup, rIn_s1, rIn_s2, rIn_s3, rMax2_int, rMin2_int, rInt1_int, rSl_str, rSl_tup, rev_app, revK_tup, seqX_app, seqK_tup, seqK_str, zip_app, zipK_tup, rLt_int, rLe_int, rGt_int, rGe_int, rLt_str, rLe_str, rGt_str, rGe_str, rOrd_encS, DD.rEq_int, DD.rEq_str, DD.rEq_bl, DD.rNe_int, DD.rNe_str, rEq_encS, rEq_encO, rEq_OS, atI_0, atI_1, atI_2, atI_3, atI_4, atI_5, atI_snoc, ob_some, gup_same, List.map_cons, List.map_nil, List.length_cons, List.length_nil, List.cons_append, List.nil_append, List.getElem?_cons_zero, List.getElem?_cons_succ, List.set_cons_zero, List.set_cons_succ, List.replicate_zero, List.replicate_succ, Nat.reduceSub, Nat.reduceAdd, if_true, if_false, Bool.false_eq_true, Bool.not_true, Bool.not_false, true_and, and_true]
  intro pf hf pl hl po ho
  have nfl : pf ≠ pl := fun z => by rw [z, gup_same] at hl; cases hl
  have nlo : pl ≠ po := fun z => by rw [z, gup_same] at ho; cases ho
  have nfo : pf ≠ po := fun z => by rw [z, gup_ne (z ▸ nfl), gup_same] at ho; cases ho
  rw [seq_for]
  simp only [set_app, drop_app, ret_app, asg_app, par_app, par3_app, put_app, next_app, cont_app, break_app, seq_set, seq_drop, seq_ret, seq_asg, seq_par, seq_par3, seq_put, seq_next, dOp, dUn, dVar, dC, dTup, dLst, dNil, dCons, dCall, dCB, dBM, isTy_str, dTB, dAndT, dOrT, dNotT, dAnd, dOr, dNot, dIf, dTru, truth, dChain, dSl, dPart, dNoPart,  dLc,  dRng1, dRng2,  dEnumT, dgName, dgTup, dgCons, dgNil, dDct0, dYes, dwipe, dstart, rAdd_int, rAdd_str, rAdd_tup, rSub_int, rMul_int, rMod_int, rFdiv_int, rNeg_int, rIs_non, rIsNot_non, rIs_bl, DD.isNonD,  rIx_str, rIx_tup, rIx_scr, rLen_str, rLen_tup, rLen_scr, rTuple_tup, rList_tup, rIn_s1, rIn_s2, rIn_s3, rMax2_int, rMin2_int, rInt1_int, rSl_str, rSl_tup, rev_app, revK_tup, seqX_app, seqK_tup, seqK_str, zip_app, zipK_tup, rLt_int, rLe_int, rGt_int, rGe_int, rLt_str, rLe_str, rGt_str, rGe_str, rOrd_encS, DD.rEq_int, DD.rEq_str, DD.rEq_bl, DD.rNe_int, DD.rNe_str, rEq_encS, rEq_encO, rEq_OS, atI_0, atI_1, atI_2, atI_3, atI_4, atI_5, atI_snoc, ob_some, gup_same, List.map_cons, List.map_nil, List.length_cons, List.length_nil, List.cons_append, List.nil_append, List.getElem?_cons_zero, List.getElem?_cons_succ, List.set_cons_zero, List.set_cons_succ, List.replicate_zero, List.replicate_succ, Nat.reduceSub, Nat.reduceAdd, if_true, if_false, Bool.false_eq_true, Bool.not_true, Bool.not_false, true_and, and_true]
  refine ⟨⟨by omega, by omega⟩, ?_⟩
  have em : ((m : Int)).toNat = m := by omega
  rw [em]
  refine forR_ind (fun i δ G => ∃ n L r6 r7 r8 r9 r10 r11 r12 r13 r14 r15 r16 r17, Dr pf pl po i n L G ∧ δ = [some (D.int c), some (D.int ↑m), some (D.ref pf), some (D.ref pl), some (D.ref po), some (D.int n), r6, r7, r8, r9, r10, r11, r12, r13, r14, r15, r16, r17]) ?_ ?_ _ _ ⟨0, [], none, none, none, none, none, none, none, none, none, none, none, none, .zero nfl nfo nlo, rfl⟩
  · rintro i F hi hF δ G ⟨n, L, r6, r7, r8, r9, r10, r11, r12, r13, r14, r15, r16, r17, D0, rfl⟩
    simp only [set_app, drop_app, ret_app, asg_app, par_app, par3_app, put_app, next_app, cont_app, break_app, seq_set, seq_drop, seq_ret, seq_asg, seq_par, seq_par3, seq_put, seq_next, dOp, dUn, dVar, dC, dTup, dLst, dNil, dCons, dCall, dCB, dBM, isTy_str, dTB, dAndT, dOrT, dNotT, dAnd, dOr, dNot, dIf, dTru, truth, dChain, dSl, dPart, dNoPart,  dLc,  dRng1, dRng2,  dEnumT, dgName, dgTup, dgCons, dgNil, dDct0, dYes, dwipe, dstart, rAdd_int, rAdd_str, rAdd_tup, rSub_int, rMul_int, rMod_int, rFdiv_int, rNeg_int, rIs_non, rIsNot_non, rIs_bl, DD.isNonD,  rIx_str, rIx_tup, rIx_scr, rLen_str, rLen_tup, rLen_scr, rTuple_tup, rList_tup, rIn_s1, rIn_s2, rIn_s3, rMax2_int, rMin2_int, rInt1_int, rSl_str, rSl_tup, rev_app, revK_tup, seqX_app, seqK_tup, seqK_str, zip_app, zipK_tup, rLt_int, rLe_int, rGt_int, rGe_int, rLt_str, rLe_str, rGt_str, rGe_str, rOrd_encS, DD.rEq_int, DD.rEq_str, DD.rEq_bl, DD.rNe_int, DD.rNe_str, rEq_encS, rEq_encO, rEq_OS, atI_0, atI_1, atI_2, atI_3, atI_4, atI_5, atI_snoc, ob_some, gup_same, List.map_cons, List.map_nil, List.length_cons, List.length_nil, List.cons_append, List.nil_append, List.getElem?_cons_zero, List.getElem?_cons_succ, List.set_cons_zero, List.set_cons_succ, List.replicate_zero, List.replicate_succ, Nat.reduceSub, Nat.reduceAdd, if_true, if_false, Bool.false_eq_true, Bool.not_true, Bool.not_false, true_and, and_true]
    refine ⟨.inl ⟨by omega, by omega⟩, ?_⟩
    refine mix_use ⟨by decide, by decide, by decide⟩ fun way hw0 hw1 => ?_
    refine mix_use ⟨by decide, by decide, by decide⟩ fun nx h0 h1 => ?_
    obtain ⟨nc, hnc, enc⟩ := atI_int (l := (Str.ofString "abz").cps.toList) h0 (by have : (Str.ofString "abz").cps.toList.length = 3 := by decide +kernel
                                                                                   omega)
    show ob (atI (Str.ofString "abz").cps.toList nx) _
    rw [enc, ob_some]
    have hnm := nms_abz nc hnc
    generalize hnn : (⟨#[nc]⟩ : Str) = nm at hnm ⊢
    refine seq_cut (fun δ G => ∃ m', D1 pf pl po i n L m' nm G ∧ δ = [some (D.int c), some (D.int ↑m), some (D.ref pf), some (D.ref pl), some (D.ref po), some (D.int m'), some (D.int (0 + (i : Int))), some (D.int (c + 31 * (0 + (i : Int)))), some (D.int way), some (D.str nm), r10, r11, r12, r13, r14, r15, r16, r17]) (fun F2 hF2 => ?_) (fun δ G h => ?_)
    · rw [if_app]
      simp only [set_app, drop_app, ret_app, asg_app, par_app, par3_app, put_app, next_app, cont_app, break_app, seq_set, seq_drop, seq_ret, seq_asg, seq_par, seq_par3, seq_put, seq_next, dOp, dUn, dVar, dC, dTup, dLst, dNil, dCons, dCall, dCB, dBM, isTy_str, dTB, dAndT, dOrT, dNotT, dAnd, dOr, dNot, dIf, dTru, truth, dChain, dSl, dPart, dNoPart,  dLc,  dRng1, dRng2,  dEnumT, dgName, dgTup, dgCons, dgNil, dDct0, dYes, dwipe, dstart, rAdd_int, rAdd_str, rAdd_tup, rSub_int, rMul_int, rMod_int, rFdiv_int, rNeg_int, rIs_non, rIsNot_non, rIs_bl, DD.isNonD,  rIx_str, rIx_tup, rIx_scr, rLen_str, rLen_tup, rLen_scr, rTuple_tup, rList_tup, rIn_s1, rIn_s2, rIn_s3, rMax2_int, rMin2_int, rInt1_int, rSl_str, rSl_tup, rev_app, revK_tup, seqX_app, seqK_tup, seqK_str, zip_app, zipK_tup, rLt_int, rLe_int, rGt_int, rGe_int, rLt_str, rLe_str, rGt_str, rGe_str, rOrd_encS, DD.rEq_int, DD.rEq_str, DD.rEq_bl, DD.rNe_int, DD.rNe_str, rEq_encS, rEq_encO, rEq_OS, atI_0, atI_1, atI_2, atI_3, atI_4, atI_5, atI_snoc, ob_some, gup_same, List.map_cons, List.map_nil, List.length_cons, List.length_nil, List.cons_append, List.nil_append, List.getElem?_cons_zero, List.getElem?_cons_succ, List.set_cons_zero, List.set_cons_succ, List.replicate_zero, List.replicate_succ, Nat.reduceSub, Nat.reduceAdd, if_true, if_false, Bool.false_eq_true, Bool.not_true, Bool.not_false, true_and, and_true]
      have bump : ∀ G', Dr pf pl po i n L G' → sp__law_mix [D.int (c + 31 * (0 + (i : Int))), D.int 9923, D.int 3] G'
              (fun x G1 => DD.rFdiv x (D.int 2) G1 fun y G2 => DD.rAdd (D.int (n + 1)) y G2 fun d G1 =>
                    F2 [some (D.int c), some (D.int ↑m), some (D.ref pf), some (D.ref pl), some (D.ref po), some d, some (D.int (0 + ↑i)), some (D.int (c + 31 * (0 + ↑i))), some (D.int way), some (D.str nm), r10,
                        r11, r12, r13, r14, r15, r16, r17] G1) ex0 := by
        intro G' D'
        refine mix_use ⟨by decide, by decide, by decide⟩ fun r hr0 hr1 => ?_
        rw [rFdiv_int, rAdd_int]
        have hn0 := D'.n0
        refine ⟨⟨by decide, by decide⟩, hF2 _ _ ⟨_, ⟨D', hnm, by omega, by omega, by omega, fun e he => ?_⟩, rfl⟩⟩
        exact ltS_iff.mpr (.inl (by have := (D'.nm e he).2.1; show e.st.1 < n + 1 + r / 2; omega))
      intro p hp
      have D' := D0.alloc (o := .lst []) hp
      rw [rEq_lst D'.f gup_same (flats_map _ flat_encD L) rfl (Nat.le_trans (dp_map _ 3 dp_encD L) (by decide)), eqPs_nil]
      rcases List.eq_nil_or_concat L with hL | ⟨L', d, hL⟩
      · subst hL
        simp only [List.map_nil, List.isEmpty_nil, if_true]
        exact bump _ D'
      · rw [List.concat_eq_append] at hL
        subst hL
        have ne : (List.map M.encD (L' ++ [d])).isEmpty = false := by cases L' <;> rfl
        simp only [ne, Bool.false_eq_true, if_false]
        obtain ⟨q, eq, q1, q0⟩ := atI_at1 (d := d)
        rw [rIx_lst D'.f, List.map_append, List.map_cons, List.map_nil, atI_snoc, ob_some, eq, rIx_tup, q1, ob_some, encS, rIx_tup, atI_1, ob_some, rGe_str]
        by_cases hc : d.st.2.cps.toList < nm.cps.toList
        · simp only [hc, decide_true, Bool.not_true, Bool.false_eq_true, if_false]
          refine mix_use ⟨by decide, by decide, by decide⟩ fun r hr0 hr1 => ?_
          rw [rGt_int]
          by_cases hr : 0 < r
          · simp only [hr, decide_true, if_true]
            exact bump _ D'
          · simp only [hr, decide_false, Bool.false_eq_true, if_false]
            have hd := D0.nm d (List.mem_append_right _ List.mem_cons_self)
            have hlt : ltS d.st (n, nm) = true := by
              rcases Int.lt_or_eq_of_le hd.2.1 with z | z
              · exact ltS_iff.mpr (.inl z)
              · exact ltS_iff.mpr (.inr ⟨z, hc⟩)
            refine hF2 _ _ ⟨_, ⟨D', hnm, Int.le_refl _, by omega, by have := hd.1; have := hd.2.1; omega, fun e he => ?_⟩, rfl⟩
            rcases List.mem_append.mp he with he | he
            · exact ltS_trans ((List.pairwise_append.mp D0.wf.sorted).2.2 e he d List.mem_cons_self) hlt
            · rw [List.mem_singleton.mp he]
              exact hlt
        · simp only [hc, decide_false, Bool.not_false, if_true]
          exact bump _ D'
    · obtain ⟨m', D1', rfl⟩ := h
      simp only [set_app, drop_app, ret_app, asg_app, par_app, par3_app, put_app, next_app, cont_app, break_app, seq_set, seq_drop, seq_ret, seq_asg, seq_par, seq_par3, seq_put, seq_next, dOp, dUn, dVar, dC, dTup, dLst, dNil, dCons, dCall, dCB, dBM, isTy_str, dTB, dAndT, dOrT, dNotT, dAnd, dOr, dNot, dIf, dTru, truth, dChain, dSl, dPart, dNoPart,  dLc,  dRng1, dRng2,  dEnumT, dgName, dgTup, dgCons, dgNil, dDct0, dYes, dwipe, dstart, rAdd_int, rAdd_str, rAdd_tup, rSub_int, rMul_int, rMod_int, rFdiv_int, rNeg_int, rIs_non, rIsNot_non, rIs_bl, DD.isNonD,  rIx_str, rIx_tup, rIx_scr, rLen_str, rLen_tup, rLen_scr, rTuple_tup, rList_tup, rIn_s1, rIn_s2, rIn_s3, rMax2_int, rMin2_int, rInt1_int, rSl_str, rSl_tup, rev_app, revK_tup, seqX_app, seqK_tup, seqK_str, zip_app, zipK_tup, rLt_int, rLe_int, rGt_int, rGe_int, rLt_str, rLe_str, rGt_str, rGe_str, rOrd_encS, DD.rEq_int, DD.rEq_str, DD.rEq_bl, DD.rNe_int, DD.rNe_str, rEq_encS, rEq_encO, rEq_OS, atI_0, atI_1, atI_2, atI_3, atI_4, atI_5, atI_snoc, ob_some, gup_same, List.map_cons, List.map_nil, List.length_cons, List.length_nil, List.cons_append, List.nil_append, List.getElem?_cons_zero, List.getElem?_cons_succ, List.set_cons_zero, List.set_cons_succ, List.replicate_zero, List.replicate_succ, Nat.reduceSub, Nat.reduceAdd, if_true, if_false, Bool.false_eq_true, Bool.not_true, Bool.not_false, true_and, and_true]
      refine seq_cut (fun δ G => ∃ m' d, d.st = (m', nm) ∧ D2 pf pl po i m' L d G ∧ ∃ r11 r12 r13 r14 r15 r16 r17, δ = [some (D.int c), some (D.int ↑m), some (D.ref pf), some (D.ref pl), some (D.ref po), some (D.int m'), some (D.int (0 + (i : Int))), some (D.int (c + 31 * (0 + (i : Int)))), some (D.int way), some (D.str nm), some (encS (m', nm)), r11, r12, r13, r14, r15, r16, r17]) (fun F2 hF2 => ?_) (fun δ G h => ?_)
      · refine if_cut (D1 pf pl po i n L m' nm) (fun G1 => D1 pf pl po i n L m' nm G1 ∧ 5 ≤ way ∧ lets L ≠ []) (fun K hT hF => ?_) (fun G1 D1' => ?_) fun G1 ⟨D1', hway, hne⟩ => ?_
        · simp only [set_app, drop_app, ret_app, asg_app, par_app, par3_app, put_app, next_app, cont_app, break_app, seq_set, seq_drop, seq_ret, seq_asg, seq_par, seq_par3, seq_put, seq_next, dOp, dUn, dVar, dC, dTup, dLst, dNil, dCons, dCall, dCB, dBM, isTy_str, dTB, dAndT, dOrT, dNotT, dAnd, dOr, dNot, dIf, dTru, truth, dChain, dSl, dPart, dNoPart,  dLc,  dRng1, dRng2,  dEnumT, dgName, dgTup, dgCons, dgNil, dDct0, dYes, dwipe, dstart, rAdd_int, rAdd_str, rAdd_tup, rSub_int, rMul_int, rMod_int, rFdiv_int, rNeg_int, rIs_non, rIsNot_non, rIs_bl, DD.isNonD,  rIx_str, rIx_tup, rIx_scr, rLen_str, rLen_tup, rLen_scr, rTuple_tup, rList_tup, rIn_s1, rIn_s2, rIn_s3, rMax2_int, rMin2_int, rInt1_int, rSl_str, rSl_tup, rev_app, revK_tup, seqX_app, seqK_tup, seqK_str, zip_app, zipK_tup, rLt_int, rLe_int, rGt_int, rGe_int, rLt_str, rLe_str, rGt_str, rGe_str, rOrd_encS, DD.rEq_int, DD.rEq_str, DD.rEq_bl, DD.rNe_int, DD.rNe_str, rEq_encS, rEq_encO, rEq_OS, atI_0, atI_1, atI_2, atI_3, atI_4, atI_5, atI_snoc, ob_some, gup_same, List.map_cons, List.map_nil, List.length_cons, List.length_nil, List.cons_append, List.nil_append, List.getElem?_cons_zero, List.getElem?_cons_succ, List.set_cons_zero, List.set_cons_succ, List.replicate_zero, List.replicate_succ, Nat.reduceSub, Nat.reduceAdd, if_true, if_false, Bool.false_eq_true, Bool.not_true, Bool.not_false, true_and, and_true]
          by_cases hw : way < 5
          · simp only [hw, decide_true, if_true]
            exact hT _ D1'
          · simp only [hw, decide_false, Bool.false_eq_true, if_false]
            intro p hp
            have D' := D1'.fresh (o := .lst []) hp
            rw [rEq_lst D'.d.l gup_same (flats_map _ (fun _ => rfl) _) rfl (Nat.le_trans (dp_map _ 1 (fun _ => Nat.le_refl _) _) (by decide)), eqPs_nil]
            cases hl : lets L with
            | nil => exact hT _ D'
            | cons a l => exact hF _ ⟨D', by omega, by rw [hl]; exact List.cons_ne_nil _ _⟩
        · simp only [set_app, drop_app, ret_app, asg_app, par_app, par3_app, put_app, next_app, cont_app, break_app, seq_set, seq_drop, seq_ret, seq_asg, seq_par, seq_par3, seq_put, seq_next, dOp, dUn, dVar, dC, dTup, dLst, dNil, dCons, dCall, dCB, dBM, isTy_str, dTB, dAndT, dOrT, dNotT, dAnd, dOr, dNot, dIf, dTru, truth, dChain, dSl, dPart, dNoPart,  dLc,  dRng1, dRng2,  dEnumT, dgName, dgTup, dgCons, dgNil, dDct0, dYes, dwipe, dstart, rAdd_int, rAdd_str, rAdd_tup, rSub_int, rMul_int, rMod_int, rFdiv_int, rNeg_int, rIs_non, rIsNot_non, rIs_bl, DD.isNonD,  rIx_str, rIx_tup, rIx_scr, rLen_str, rLen_tup, rLen_scr, rTuple_tup, rList_tup, rIn_s1, rIn_s2, rIn_s3, rMax2_int, rMin2_int, rInt1_int, rSl_str, rSl_tup, rev_app, revK_tup, seqX_app, seqK_tup, seqK_str, zip_app, zipK_tup, rLt_int, rLe_int, rGt_int, rGe_int, rLt_str, rLe_str, rGt_str, rGe_str, rOrd_encS, DD.rEq_int, DD.rEq_str, DD.rEq_bl, DD.rNe_int, DD.rNe_str, rEq_encS, rEq_encO, rEq_OS, atI_0, atI_1, atI_2, atI_3, atI_4, atI_5, atI_snoc, ob_some, gup_same, List.map_cons, List.map_nil, List.length_cons, List.length_nil, List.cons_append, List.nil_append, List.getElem?_cons_zero, List.getElem?_cons_succ, List.set_cons_zero, List.set_cons_succ, List.replicate_zero, List.replicate_succ, Nat.reduceSub, Nat.reduceAdd, if_true, if_false, Bool.false_eq_true, Bool.not_true, Bool.not_false, true_and, and_true]
          intro p hp
          have D' := D1'.fresh (o := .lst [D.non]) hp
          rw [rAdd_lst gup_same D'.d.l]
          have hll := lets_len L
          have hLl := D1'.d.len
          refine ⟨by simp only [List.length_cons, List.length_nil, List.length_map]; omega, fun p2 hp2 => ?_⟩
          obtain ⟨os, hos, es, fit⟩ : ∃ os : List (Option Stp), os ≠ [] ∧ [D.non] ++ List.map encS (lets L) = os.map encO ∧ ∀ a ∈ os, ∀ s, a = some s → s ∈ lets L := by
            refine ⟨none :: (lets L).map some, List.cons_ne_nil _ _, ?_, ?_⟩
            · simp only [List.map_cons, List.map_map, List.cons_append, List.nil_append]
              rfl
            · intro a ha s e
              subst e
              rcases List.mem_cons.mp ha with z | z
              · cases z
              · obtain ⟨t, ht, e⟩ := List.mem_map.mp z
                cases e
                exact ht
          rw [es]
          have D'' := D'.fresh (o := .lst (os.map encO)) hp2
          rw [rLen_lst gup_same]
          refine mix_use ⟨by decide, by decide, by rw [List.length_map]; have := List.length_pos_iff.mpr hos; omega⟩ fun r hr0 hr1 => ?_
          obtain ⟨a, ha, ea⟩ := idx_mem encO hr0 hr1
          rw [rIx_lst gup_same, ea, ob_some]
          refine seq_cut (fun δ G => ∃ a, (∀ s, a = some s → s ∈ lets L) ∧ D1 pf pl po i n L m' nm G ∧ δ = [some (D.int c), some (D.int ↑m), some (D.ref pf), some (D.ref pl), some (D.ref po), some (D.int m'), some (D.int (0 + (i : Int))), some (D.int (c + 31 * (0 + (i : Int)))), some (D.int way), some (D.str nm), some (D.tup [D.int m', D.str nm]), some (D.ref p2), some (encO a), r13, r14, r15, r16, r17]) (fun F3 hF3 => ?_) (fun δ G h => ?_)
          · rw [if_app]
            simp only [set_app, drop_app, ret_app, asg_app, par_app, par3_app, put_app, next_app, cont_app, break_app, seq_set, seq_drop, seq_ret, seq_asg, seq_par, seq_par3, seq_put, seq_next, dOp, dUn, dVar, dC, dTup, dLst, dNil, dCons, dCall, dCB, dBM, isTy_str, dTB, dAndT, dOrT, dNotT, dAnd, dOr, dNot, dIf, dTru, truth, dChain, dSl, dPart, dNoPart,  dLc,  dRng1, dRng2,  dEnumT, dgName, dgTup, dgCons, dgNil, dDct0, dYes, dwipe, dstart, rAdd_int, rAdd_str, rAdd_tup, rSub_int, rMul_int, rMod_int, rFdiv_int, rNeg_int, rIs_non, rIsNot_non, rIs_bl, DD.isNonD,  rIx_str, rIx_tup, rIx_scr, rLen_str, rLen_tup, rLen_scr, rTuple_tup, rList_tup, rIn_s1, rIn_s2, rIn_s3, rMax2_int, rMin2_int, rInt1_int, rSl_str, rSl_tup, rev_app, revK_tup, seqX_app, seqK_tup, seqK_str, zip_app, zipK_tup, rLt_int, rLe_int, rGt_int, rGe_int, rLt_str, rLe_str, rGt_str, rGe_str, rOrd_encS, DD.rEq_int, DD.rEq_str, DD.rEq_bl, DD.rNe_int, DD.rNe_str, rEq_encS, rEq_encO, rEq_OS, atI_0, atI_1, atI_2, atI_3, atI_4, atI_5, atI_snoc, ob_some, gup_same, List.map_cons, List.map_nil, List.length_cons, List.length_nil, List.cons_append, List.nil_append, List.getElem?_cons_zero, List.getElem?_cons_succ, List.set_cons_zero, List.set_cons_succ, List.replicate_zero, List.replicate_succ, Nat.reduceSub, Nat.reduceAdd, if_true, if_false, Bool.false_eq_true, Bool.not_true, Bool.not_false, true_and, and_true]
            refine mix_use ⟨by decide, by decide, by decide⟩ fun r' _ _ => ?_
            rw [DD.rEq_int]
            by_cases hr' : (r' == 0) = true
            · simp only [hr', if_true]
              obtain ⟨a', ha', ea'⟩ : ∃ a', a' ∈ os ∧ atI (os.map encO) (-1) = some (encO a') := by
                rw [DD.atI_last, List.getLast?_map]
                refine ⟨_, List.getLast_mem hos, ?_⟩
                rw [List.getLast?_eq_some_getLast hos]
                rfl
              rw [rIx_lst gup_same, ea', ob_some]
              exact hF3 _ _ ⟨a', fit a' ha', D'', rfl⟩
            · simp only [hr', if_false]
              exact hF3 _ _ ⟨a, fit a ha, D'', rfl⟩
          · obtain ⟨a, hfa, Dl, rfl⟩ := h
            simp only [set_app, drop_app, ret_app, asg_app, par_app, par3_app, put_app, next_app, cont_app, break_app, seq_set, seq_drop, seq_ret, seq_asg, seq_par, seq_par3, seq_put, seq_next, dOp, dUn, dVar, dC, dTup, dLst, dNil, dCons, dCall, dCB, dBM, isTy_str, dTB, dAndT, dOrT, dNotT, dAnd, dOr, dNot, dIf, dTru, truth, dChain, dSl, dPart, dNoPart,  dLc,  dRng1, dRng2,  dEnumT, dgName, dgTup, dgCons, dgNil, dDct0, dYes, dwipe, dstart, rAdd_int, rAdd_str, rAdd_tup, rSub_int, rMul_int, rMod_int, rFdiv_int, rNeg_int, rIs_non, rIsNot_non, rIs_bl, DD.isNonD,  rIx_str, rIx_tup, rIx_scr, rLen_str, rLen_tup, rLen_scr, rTuple_tup, rList_tup, rIn_s1, rIn_s2, rIn_s3, rMax2_int, rMin2_int, rInt1_int, rSl_str, rSl_tup, rev_app, revK_tup, seqX_app, seqK_tup, seqK_str, zip_app, zipK_tup, rLt_int, rLe_int, rGt_int, rGe_int, rLt_str, rLe_str, rGt_str, rGe_str, rOrd_encS, DD.rEq_int, DD.rEq_str, DD.rEq_bl, DD.rNe_int, DD.rNe_str, rEq_encS, rEq_encO, rEq_OS, atI_0, atI_1, atI_2, atI_3, atI_4, atI_5, atI_snoc, ob_some, gup_same, List.map_cons, List.map_nil, List.length_cons, List.length_nil, List.cons_append, List.nil_append, List.getElem?_cons_zero, List.getElem?_cons_succ, List.set_cons_zero, List.set_cons_succ, List.replicate_zero, List.replicate_succ, Nat.reduceSub, Nat.reduceAdd, if_true, if_false, Bool.false_eq_true, Bool.not_true, Bool.not_false, true_and, and_true]
            rw [isTy_lst Dl.d.f]
            refine ⟨trivial, letter_use fun x hx => ?_⟩
            rw [rAppend_lst Dl.d.f]
            refine ⟨by rw [List.length_map]; omega, ?_⟩
            have hpl : ∀ o, gup G pf o pl = some (.lst ((lets L).map encS)) := fun o => by rw [gup_ne (Ne.symm Dl.d.fl)]; exact Dl.d.l
            rw [isTy_lst (hpl _), rAppend_lst (hpl _)]
            refine ⟨trivial, by rw [List.length_map]; omega, ?_⟩
            exact hF2 _ _ ⟨m', .write (m', nm) a x, rfl, Dl.addW hfa hx, _, _, _, _, _, _, _, rfl⟩
        · have hll := lets_len L
          have hLl := D1'.d.len
          have pick : ∀ (p : Int), 0 < p ∧ p < 100000 → ∀ (s : Int) (Q : D → DG → Prop), (∀ g ∈ lets L, Q (encS g) G1) →
              sp__law_mix [.int s, .int p, .int ((List.map encS (lets L)).length : Nat)] G1 (fun d G2 => DD.rIx (.ref pl) d G2 Q) ex0 := by
            intro p hp s Q h
            refine mix_use ⟨hp.1, hp.2, by rw [List.length_map]; have := List.length_pos_iff.mpr hne; omega⟩ fun r hr0 hr1 => ?_
            obtain ⟨g, hg, eg⟩ := idx_mem encS hr0 hr1
            rw [rIx_lst D1'.d.l, eg, ob_some]
            exact h g hg
          rw [if_app]
          simp only [set_app, drop_app, ret_app, asg_app, par_app, par3_app, put_app, next_app, cont_app, break_app, seq_set, seq_drop, seq_ret, seq_asg, seq_par, seq_par3, seq_put, seq_next, dOp, dUn, dVar, dC, dTup, dLst, dNil, dCons, dCall, dCB, dBM, isTy_str, dTB, dAndT, dOrT, dNotT, dAnd, dOr, dNot, dIf, dTru, truth, dChain, dSl, dPart, dNoPart,  dLc,  dRng1, dRng2,  dEnumT, dgName, dgTup, dgCons, dgNil, dDct0, dYes, dwipe, dstart, rAdd_int, rAdd_str, rAdd_tup, rSub_int, rMul_int, rMod_int, rFdiv_int, rNeg_int, rIs_non, rIsNot_non, rIs_bl, DD.isNonD,  rIx_str, rIx_tup, rIx_scr, rLen_str, rLen_tup, rLen_scr, rTuple_tup, rList_tup, rIn_s1, rIn_s2, rIn_s3, rMax2_int, rMin2_int, rInt1_int, rSl_str, rSl_tup, rev_app, revK_tup, seqX_app, seqK_tup, seqK_str, zip_app, zipK_tup, rLt_int, rLe_int, rGt_int, rGe_int, rLt_str, rLe_str, rGt_str, rGe_str, rOrd_encS, DD.rEq_int, DD.rEq_str, DD.rEq_bl, DD.rNe_int, DD.rNe_str, rEq_encS, rEq_encO, rEq_OS, atI_0, atI_1, atI_2, atI_3, atI_4, atI_5, atI_snoc, ob_some, gup_same, List.map_cons, List.map_nil, List.length_cons, List.length_nil, List.cons_append, List.nil_append, List.getElem?_cons_zero, List.getElem?_cons_succ, List.set_cons_zero, List.set_cons_succ, List.replicate_zero, List.replicate_succ, Nat.reduceSub, Nat.reduceAdd, if_true, if_false, Bool.false_eq_true, Bool.not_true, Bool.not_false, true_and, and_true]
          by_cases h5 : (way == 5) = true
          · simp only [h5, if_true]
            rw [isTy_lst D1'.d.f, rLen_lst D1'.d.l]
            refine ⟨trivial, pick _ ⟨by decide, by decide⟩ _ _ fun g hg => ?_⟩
            rw [rAppend_lst D1'.d.f]
            refine ⟨by rw [List.length_map]; omega, ?_⟩
            exact hF2 _ _ ⟨m', .cut (m', nm) g, rfl, D1'.add _ rfl hg (fun _ _ _ e => by cases e) rfl, _, _, _, _, _, _, _, rfl⟩
          · simp only [h5, if_false]
            rw [if_app]
            simp only [set_app, drop_app, ret_app, asg_app, par_app, par3_app, put_app, next_app, cont_app, break_app, seq_set, seq_drop, seq_ret, seq_asg, seq_par, seq_par3, seq_put, seq_next, dOp, dUn, dVar, dC, dTup, dLst, dNil, dCons, dCall, dCB, dBM, isTy_str, dTB, dAndT, dOrT, dNotT, dAnd, dOr, dNot, dIf, dTru, truth, dChain, dSl, dPart, dNoPart,  dLc,  dRng1, dRng2,  dEnumT, dgName, dgTup, dgCons, dgNil, dDct0, dYes, dwipe, dstart, rAdd_int, rAdd_str, rAdd_tup, rSub_int, rMul_int, rMod_int, rFdiv_int, rNeg_int, rIs_non, rIsNot_non, rIs_bl, DD.isNonD,  rIx_str, rIx_tup, rIx_scr, rLen_str, rLen_tup, rLen_scr, rTuple_tup, rList_tup, rIn_s1, rIn_s2, rIn_s3, rMax2_int, rMin2_int, rInt1_int, rSl_str, rSl_tup, rev_app, revK_tup, seqX_app, seqK_tup, seqK_str, zip_app, zipK_tup, rLt_int, rLe_int, rGt_int, rGe_int, rLt_str, rLe_str, rGt_str, rGe_str, rOrd_encS, DD.rEq_int, DD.rEq_str, DD.rEq_bl, DD.rNe_int, DD.rNe_str, rEq_encS, rEq_encO, rEq_OS, atI_0, atI_1, atI_2, atI_3, atI_4, atI_5, atI_snoc, ob_some, gup_same, List.map_cons, List.map_nil, List.length_cons, List.length_nil, List.cons_append, List.nil_append, List.getElem?_cons_zero, List.getElem?_cons_succ, List.set_cons_zero, List.set_cons_succ, List.replicate_zero, List.replicate_succ, Nat.reduceSub, Nat.reduceAdd, if_true, if_false, Bool.false_eq_true, Bool.not_true, Bool.not_false, true_and, and_true]
            by_cases h8 : way < 8
            · simp only [h8, decide_true, if_true]
              refine mix_use ⟨by decide, by decide, by decide⟩ fun k hk0 hk1 => ?_
              have kind : ∃ b : Bool, atI [D.str (Str.ofString "bold"), D.str (Str.ofString "link")] k = some (.str (if b = true then "bold" else "link")) := by
                rcases (by omega : k = 0 ∨ k = 1) with z | z <;> subst z
                · exact ⟨true, atI_0⟩
                · exact ⟨false, atI_1⟩
              obtain ⟨b, eb⟩ := kind
              rw [rIx_tup, eb, ob_some]
              rw [rLen_lst D1'.d.l]
              refine pick _ ⟨by decide, by decide⟩ _ _ fun f hf => ?_
              rw [rLen_lst D1'.d.l]
              refine pick _ ⟨by decide, by decide⟩ _ _ fun e he => ?_
              refine seq_cut (fun δ G => G = G1 ∧ ∃ a, (∀ s, a = some s → s ∈ lets L) ∧ (a = none → b = true) ∧ δ = [some (D.int c), some (D.int ↑m), some (D.ref pf), some (D.ref pl), some (D.ref po), some (D.int m'), some (D.int (0 + (i : Int))), some (D.int (c + 31 * (0 + (i : Int)))), some (D.int way), some (D.str nm), some (D.tup [D.int m', D.str nm]), r11, r12, some (D.str (if b = true then "bold" else "link")), some (encS f), some (encO a), r16, r17]) (fun F3 hF3 => ?_) (fun δ G h => ?_)
              · rw [if_app]
                simp only [set_app, drop_app, ret_app, asg_app, par_app, par3_app, put_app, next_app, cont_app, break_app, seq_set, seq_drop, seq_ret, seq_asg, seq_par, seq_par3, seq_put, seq_next, dOp, dUn, dVar, dC, dTup, dLst, dNil, dCons, dCall, dCB, dBM, isTy_str, dTB, dAndT, dOrT, dNotT, dAnd, dOr, dNot, dIf, dTru, truth, dChain, dSl, dPart, dNoPart,  dLc,  dRng1, dRng2,  dEnumT, dgName, dgTup, dgCons, dgNil, dDct0, dYes, dwipe, dstart, rAdd_int, rAdd_str, rAdd_tup, rSub_int, rMul_int, rMod_int, rFdiv_int, rNeg_int, rIs_non, rIsNot_non, rIs_bl, DD.isNonD,  rIx_str, rIx_tup, rIx_scr, rLen_str, rLen_tup, rLen_scr, rTuple_tup, rList_tup, rIn_s1, rIn_s2, rIn_s3, rMax2_int, rMin2_int, rInt1_int, rSl_str, rSl_tup, rev_app, revK_tup, seqX_app, seqK_tup, seqK_str, zip_app, zipK_tup, rLt_int, rLe_int, rGt_int, rGe_int, rLt_str, rLe_str, rGt_str, rGe_str, rOrd_encS, DD.rEq_int, DD.rEq_str, DD.rEq_bl, DD.rNe_int, DD.rNe_str, rEq_encS, rEq_encO, rEq_OS, atI_0, atI_1, atI_2, atI_3, atI_4, atI_5, atI_snoc, ob_some, gup_same, List.map_cons, List.map_nil, List.length_cons, List.length_nil, List.cons_append, List.nil_append, List.getElem?_cons_zero, List.getElem?_cons_succ, List.set_cons_zero, List.set_cons_succ, List.replicate_zero, List.replicate_succ, Nat.reduceSub, Nat.reduceAdd, if_true, if_false, Bool.false_eq_true, Bool.not_true, Bool.not_false, true_and, and_true]
                cases b with
                | false =>
                  have e0 : (Str.ofString "link" == Str.ofString "bold") = false := by decide +kernel
                  simp only [Bool.false_eq_true, if_false, e0]
                  exact hF3 _ _ ⟨rfl, some e, (fun s h => by cases h; exact he), (fun h => by cases h), rfl⟩
                | true =>
                  have e0 : (Str.ofString "bold" == Str.ofString "bold") = true := by decide +kernel
                  simp only [if_true, e0]
                  refine mix_use ⟨by decide, by decide, by decide⟩ fun r' _ _ => ?_
                  rw [DD.rEq_int]
                  by_cases hr' : (r' == 0) = true
                  · simp only [hr', if_true]
                    exact hF3 _ _ ⟨rfl, none, (fun s h => by cases h), (fun _ => rfl), rfl⟩
                  · simp only [hr', if_false]
                    exact hF3 _ _ ⟨rfl, some e, (fun s h => by cases h; exact he), (fun h => by cases h), rfl⟩
              · obtain ⟨eG, a, ha, hb, rfl⟩ := h
                subst eG
                simp only [set_app, drop_app, ret_app, asg_app, par_app, par3_app, put_app, next_app, cont_app, break_app, seq_set, seq_drop, seq_ret, seq_asg, seq_par, seq_par3, seq_put, seq_next, dOp, dUn, dVar, dC, dTup, dLst, dNil, dCons, dCall, dCB, dBM, isTy_str, dTB, dAndT, dOrT, dNotT, dAnd, dOr, dNot, dIf, dTru, truth, dChain, dSl, dPart, dNoPart,  dLc,  dRng1, dRng2,  dEnumT, dgName, dgTup, dgCons, dgNil, dDct0, dYes, dwipe, dstart, rAdd_int, rAdd_str, rAdd_tup, rSub_int, rMul_int, rMod_int, rFdiv_int, rNeg_int, rIs_non, rIsNot_non, rIs_bl, DD.isNonD,  rIx_str, rIx_tup, rIx_scr, rLen_str, rLen_tup, rLen_scr, rTuple_tup, rList_tup, rIn_s1, rIn_s2, rIn_s3, rMax2_int, rMin2_int, rInt1_int, rSl_str, rSl_tup, rev_app, revK_tup, seqX_app, seqK_tup, seqK_str, zip_app, zipK_tup, rLt_int, rLe_int, rGt_int, rGe_int, rLt_str, rLe_str, rGt_str, rGe_str, rOrd_encS, DD.rEq_int, DD.rEq_str, DD.rEq_bl, DD.rNe_int, DD.rNe_str, rEq_encS, rEq_encO, rEq_OS, atI_0, atI_1, atI_2, atI_3, atI_4, atI_5, atI_snoc, ob_some, gup_same, List.map_cons, List.map_nil, List.length_cons, List.length_nil, List.cons_append, List.nil_append, List.getElem?_cons_zero, List.getElem?_cons_succ, List.set_cons_zero, List.set_cons_succ, List.replicate_zero, List.replicate_succ, Nat.reduceSub, Nat.reduceAdd, if_true, if_false, Bool.false_eq_true, Bool.not_true, Bool.not_false, true_and, and_true]
                rw [isTy_lst D1'.d.f]
                refine ⟨trivial, value_use fun v hv => ?_⟩
                rw [rAppend_lst D1'.d.f]
                refine ⟨by rw [List.length_map]; omega, ?_⟩
                exact hF2 _ _ ⟨m', .mark (m', nm) b f a v, rfl, D1'.add _ rfl ⟨hf, ha, hb, hv⟩ (fun _ _ _ e => by cases e) rfl, _, _, _, _, _, _, _, rfl⟩
            · simp only [h8, decide_false, Bool.false_eq_true, if_false]
              rw [rAdd_lst D1'.d.l D1'.d.o]
              have hol := oths_len L
              refine ⟨by simp only [List.length_map]; omega, fun p hp => ?_⟩
              have D' := D1'.fresh (o := .lst (List.map encS (lets L) ++ List.map encS (oths L))) hp
              refine mix_use ⟨by decide, by decide, by decide⟩ fun k hk0 hk1 => ?_
              have word : ∃ b : Bool, atI [D.str (Str.ofString "off"), D.str (Str.ofString "on"), D.str (Str.ofString "off")] k = some (.str (if b = true then "on" else "off")) := by
                rcases (by omega : k = 0 ∨ k = 1 ∨ k = 2) with z | z | z <;> subst z
                · exact ⟨false, atI_0⟩
                · exact ⟨true, atI_1⟩
                · exact ⟨false, atI_2⟩
              obtain ⟨b, eb⟩ := word
              rw [rIx_tup, eb, ob_some, isTy_lst D'.d.f, rLen_lst gup_same]
              refine ⟨trivial, mix_use ⟨by decide, by decide, by rw [List.length_append, List.length_map, List.length_map]; have := List.length_pos_iff.mpr hne; omega⟩ fun r hr0 hr1 => ?_⟩
              rw [← List.map_append] at hr1
              obtain ⟨g, hg, eg⟩ := idx_mem encS hr0 hr1
              rw [rIx_lst gup_same, ← List.map_append, eg, ob_some, List.map_append, rAppend_lst D'.d.f]
              refine ⟨by rw [List.length_map]; omega, ?_⟩
              exact hF2 _ _ ⟨m', .sw b (m', nm) g, rfl, D'.add _ rfl (List.mem_append.mp hg) (fun _ _ _ e => by cases e) rfl, _, _, _, _, _, _, _, rfl⟩
      · obtain ⟨m', d, ed, D2', r11, r12, r13, r14, r15, r16, r17, rfl⟩ := h
        rw [if_app]
        simp only [set_app, drop_app, ret_app, asg_app, par_app, par3_app, put_app, next_app, cont_app, break_app, seq_set, seq_drop, seq_ret, seq_asg, seq_par, seq_par3, seq_put, seq_next, dOp, dUn, dVar, dC, dTup, dLst, dNil, dCons, dCall, dCB, dBM, isTy_str, dTB, dAndT, dOrT, dNotT, dAnd, dOr, dNot, dIf, dTru, truth, dChain, dSl, dPart, dNoPart,  dLc,  dRng1, dRng2,  dEnumT, dgName, dgTup, dgCons, dgNil, dDct0, dYes, dwipe, dstart, rAdd_int, rAdd_str, rAdd_tup, rSub_int, rMul_int, rMod_int, rFdiv_int, rNeg_int, rIs_non, rIsNot_non, rIs_bl, DD.isNonD,  rIx_str, rIx_tup, rIx_scr, rLen_str, rLen_tup, rLen_scr, rTuple_tup, rList_tup, rIn_s1, rIn_s2, rIn_s3, rMax2_int, rMin2_int, rInt1_int, rSl_str, rSl_tup, rev_app, revK_tup, seqX_app, seqK_tup, seqK_str, zip_app, zipK_tup, rLt_int, rLe_int, rGt_int, rGe_int, rLt_str, rLe_str, rGt_str, rGe_str, rOrd_encS, DD.rEq_int, DD.rEq_str, DD.rEq_bl, DD.rNe_int, DD.rNe_str, rEq_encS, rEq_encO, rEq_OS, atI_0, atI_1, atI_2, atI_3, atI_4, atI_5, atI_snoc, ob_some, gup_same, List.map_cons, List.map_nil, List.length_cons, List.length_nil, List.cons_append, List.nil_append, List.getElem?_cons_zero, List.getElem?_cons_succ, List.set_cons_zero, List.set_cons_succ, List.replicate_zero, List.replicate_succ, Nat.reduceSub, Nat.reduceAdd, if_true, if_false, Bool.false_eq_true, Bool.not_true, Bool.not_false, true_and, and_true]
        obtain ⟨q, eq, q1, q0⟩ := atI_at1 (d := d)
        rw [rIx_lst D2'.f, List.map_append, List.map_cons, List.map_nil, atI_snoc, ob_some, eq, rIx_tup, q0, ob_some, rIn_s2, word_o]
        cases ho : d.isO with
        | none =>
          simp only [Option.isSome_none, Bool.false_eq_true, if_false]
          exact hF _ _ ⟨_, _, _, _, _, _, _, _, _, _, _, _, _, _, D2'.skip ho, rfl⟩
        | some s =>
          have e := isO_st ho
          rw [ed] at e
          subst e
          simp only [Option.isSome_some, if_true]
          rw [isTy_lst D2'.o, rAppend_lst D2'.o]
          refine ⟨trivial, by have := oths_len L; have := D2'.len; rw [List.length_map]; omega, ?_⟩
          exact hF _ _ ⟨_, _, _, _, _, _, _, _, _, _, _, _, _, _, D2'.tell ho, rfl⟩
  · rintro δ G ⟨n, L, r6, r7, r8, r9, r10, r11, r12, r13, r14, r15, r16, r17, D0, rfl⟩
    simp only [set_app, drop_app, ret_app, asg_app, par_app, par3_app, put_app, next_app, cont_app, break_app, seq_set, seq_drop, seq_ret, seq_asg, seq_par, seq_par3, seq_put, seq_next, dOp, dUn, dVar, dC, dTup, dLst, dNil, dCons, dCall, dCB, dBM, isTy_str, dTB, dAndT, dOrT, dNotT, dAnd, dOr, dNot, dIf, dTru, truth, dChain, dSl, dPart, dNoPart,  dLc,  dRng1, dRng2,  dEnumT, dgName, dgTup, dgCons, dgNil, dDct0, dYes, dwipe, dstart, rAdd_int, rAdd_str, rAdd_tup, rSub_int, rMul_int, rMod_int, rFdiv_int, rNeg_int, rIs_non, rIsNot_non, rIs_bl, DD.isNonD,  rIx_str, rIx_tup, rIx_scr, rLen_str, rLen_tup, rLen_scr, rTuple_tup, rList_tup, rIn_s1, rIn_s2, rIn_s3, rMax2_int, rMin2_int, rInt1_int, rSl_str, rSl_tup, rev_app, revK_tup, seqX_app, seqK_tup, seqK_str, zip_app, zipK_tup, rLt_int, rLe_int, rGt_int, rGe_int, rLt_str, rLe_str, rGt_str, rGe_str, rOrd_encS, DD.rEq_int, DD.rEq_str, DD.rEq_bl, DD.rNe_int, DD.rNe_str, rEq_encS, rEq_encO, rEq_OS, atI_0, atI_1, atI_2, atI_3, atI_4, atI_5, atI_snoc, ob_some, gup_same, List.map_cons, List.map_nil, List.length_cons, List.length_nil, List.cons_append, List.nil_append, List.getElem?_cons_zero, List.getElem?_cons_succ, List.set_cons_zero, List.set_cons_succ, List.replicate_zero, List.replicate_succ, Nat.reduceSub, Nat.reduceAdd, if_true, if_false, Bool.false_eq_true, Bool.not_true, Bool.not_false, true_and, and_true]
    rw [rTuple_lst D0.f]
    refine ⟨L, rfl, D0.wf, fun c' m'' e => ?_⟩
    have em : m = m'' := by
      simp only [List.cons.injEq, D.int.injEq, and_true] at e
      omega
    subst em
    have h2 := D0.n2
    exact ⟨D0.len, fun d hd => by
      obtain ⟨a, b, c⟩ := D0.nm d hd
      exact ⟨a, by omega, c⟩⟩
theorem good__law_deeds {P : Program} {w : World} {K : PySem.W.Frag} {mg : Str → Option Value} {base : Heap} (D0 : DefAt K mg "_law_deeds" (top 29)) (g_len : mg "len" = none) (g_range : mg "range" = none) (g_tuple : mg "tuple" = none) (G__law_letter : Good P w K mg base "_law_letter" ps__law_letter 2 sp__law_letter) (G__law_mix : Good P w K mg base "_law_mix" ps__law_mix 1 sp__law_mix) (G__law_value : Good P w K mg base "_law_value" ps__law_value 2 sp__law_value) : Good P w K mg base "_law_deeds" ps__law_deeds 3 sp__law_deeds :=
  goodQ D0 sc__law_deeds t__law_deeds bind__law_deeds len__law_deeds (fun f cdv A outer s H E hr => der__law_deeds g_len g_range g_tuple G__law_letter G__law_mix G__law_value f cdv A outer s H E hr) pure__law_deeds
end K

namespace K
open PySem PySem.Spec PyProof.Rows L2 DD M
/-- the arguments: deeds and a goal -/
def PreG (ds : List D) (L : List Deed) (g : Stp) : Prop := ds = [D.tup (L.map M.encD), encS g] ∧ Wf L ∧ L.length ≤ 1000
def rel_counts (ds : List D) (d : D) : Prop := ∃ L g, PreG ds L g ∧ d = .bl (M.counts L g)
def sp_counts : DSp := spP rel_counts
abbrev N_counts : List Str := ["deeds", "goal", "some", "deed"]
abbrev ps_counts : List Str := ["deeds", "goal"]
def t_counts : DTS :=
  (dSeq (dSet 2 (dLc (dSeqX (dVar 0)) (dgName 3) (dAndT (dTB (dOp rIn (dOp rIx (dVar 3) (dC (.int 0))) (dTup (dCons (dC (.str "off")) (dCons (dC (.str "on")) dNil))))) (dTB (dOp rEq (dOp rIx (dVar 3) (dC (.int 2))) (dVar 1)))) (dOp rAdd (dSl rSl (dVar 3) (dPart (dC (.int 1))) (dPart (dC (.int 2)))) (dSl rSl (dVar 3) dNoPart (dPart (dC (.int 1))))) [3])) (dRet (dOr (dNot (dVar 2)) (dOp rEq (dOp rIx (dCB rMax1 (dCons (dVar 2) dNil)) (dC (.int 1))) (dC (.str "on"))))))
theorem sc_counts : FnScope N_counts ps_counts (defScope (top 3)) := ⟨rfl, rfl, rfl, by decide +kernel, rfl, by decide +kernel, by decide +kernel⟩
theorem der_counts {P : Program} {w : World} {K : PySem.W.Frag} {mg : Str → Option Value} {base : Heap} (g_max : mg "max" = none) (f : Addr) (cdv : Value) (A : Around) (outer : List Env) (s : Shared) (H : Hp) (E : XK)
    (hr : Room 0 (A.deeper (envOfC "counts" (defScope (top 3)) s.heap.objs.size f cdv))) :
    DSs (cxOf CX0 P w K mg base N_counts "counts" (defScope (top 3)) f cdv A outer s H E).nox (Rg.top K w) (defBody (top 3)) t_counts := by
  have S := sc_counts
  exact (dss_cons (ds_setLc (i := 2) (own := [("deed", 3)]) rfl S.nd rfl rfl rfl (di_seq (de_var (pv 0))) (show BlkOk N_counts (defScope (top 3)) _ _ from ⟨rfl, by decide +kernel, by decide +kernel, by decide +kernel, by decide +kernel⟩) (fun _ _ _ _ _ => (dg_name (pg_name (i := 3) S.nd rfl (by first | exact Or.inl rfl | exact Or.inr rfl)) (by decide) (by decide))) (fun _ _ _ _ _ => (dts_one (dt_w (dw_and (dt_cmp (op_inD hr.units) (de_ix (ix_D hr.units) (de_var (pv 3)) de_int) (de_tup (da_cons de_str (da_cons de_str da_nil))) (by rfl)) (dw_and1 (dt_cmp (op_eqD hr.units) (de_ix (ix_D hr.units) (de_var (pv 3)) de_int) (de_var (pv 1)) (by rfl))))))) (fun _ _ _ _ _ => (de_op op_addD (de_slice sl_D (de_var (pv 3)) (do_some de_int) (do_some de_int)) (de_slice sl_D (de_var (pv 3)) do_none (do_some de_int)))))
    (dss_one (ds_ret (de_or (de_not (de_var (pv 2))) (de_one (de_cmp (op_eqD hr.units) (de_ix (ix_D hr.units) (de_callB (call_max1D rfl hr.units) rfl g_max rfl (da_cons (de_var (pv 2)) da_nil)) de_int) de_str (by rfl)))))))
theorem bind_counts (kV doc pm : Value) (an : Option Addr) (cdv ct : Value) (us : List Value) (hl : us.length = ps_counts.length) : bindArgs (PySem.W.fnOf "counts" "counts" (defArgs (top 3)) (defBody (top 3)) (defScope (top 3)) .none kV doc pm an cdv ct) ⟨us, []⟩ = pure (ps_counts.zip us) := match us, hl with | [_, _], _ => rfl
theorem len_counts : ∀ ds d, rel_counts ds d → ds.length = ps_counts.length := by
  rintro ds d ⟨L, g, ⟨rfl, _⟩, _⟩; rfl
theorem word_sw (d : Deed) : (Str.ofString "off" == d.word || Str.ofString "on" == d.word) = (match d with | .sw _ _ _ => true | _ => false) := by
  cases d with
  | sw on s g =>
    cases on
    · exact (by decide +kernel : (Str.ofString "off" == Str.ofString "off" || Str.ofString "on" == Str.ofString "off") = true)
    · exact (by decide +kernel : (Str.ofString "off" == Str.ofString "on" || Str.ofString "on" == Str.ofString "on") = true)
  | write s a c => exact (by decide +kernel : (Str.ofString "off" == Str.ofString "write" || Str.ofString "on" == Str.ofString "write") = false)
  | cut s g => exact (by decide +kernel : (Str.ofString "off" == Str.ofString "cut" || Str.ofString "on" == Str.ofString "cut") = false)
  | mark s b f e v => exact (by decide +kernel : (Str.ofString "off" == Str.ofString "mark" || Str.ofString "on" == Str.ofString "mark") = false)
theorem encD_sw {on : Bool} {s g : Stp} : M.encD (.sw on s g) = .tup [.str (if on = true then "on" else "off"), encS s, encS g] := rfl
theorem encD_cut {s g : Stp} : M.encD (.cut s g) = .tup [.str "cut", encS s, encS g] := rfl
theorem encD_write {s : Stp} {a : Option Stp} {c : Nat} : M.encD (.write s a c) = .tup [.str "write", encS s, encO a, .str ⟨#[c]⟩] := rfl
theorem pure_counts : ∀ ds d, rel_counts ds d → t_counts { nx := fun _ _ => .non = d, rt := fun d' _ => d' = d } (dstart N_counts ds) g0 := by
  rintro ds d ⟨L, g, ⟨rfl, hW, hL⟩, rfl⟩
  simp only [t_counts, N_counts, set_app, drop_app, ret_app, asg_app, par_app, par3_app, put_app, next_app, cont_app, break_app, seq_set, seq_drop, seq_ret, seq_asg, seq_par, seq_par3, seq_put, seq_next, dOp, dUn, dVar, dC, dTup, dLst, dNil, dCons, dCall, dCB, dBM, isTy_str, dTB, dAndT, dOrT, dNotT, dAnd, dOr, dNot, dIf, dTru, truth, dChain, dSl, dPart, dNoPart,  dLc,  dRng1, dRng2,  dEnumT, dgName, dgTup, dgCons, dgNil, dDct0, dYes, dwipe, dstart, rAdd_int, rAdd_str, rAdd_tup, rSub_int, rMul_int, rMod_int, rFdiv_int, rNeg_int, rIs_non, rIsNot_non, rIs_bl, DD.isNonD,  rIx_str, rIx_tup, rIx_scr, rLen_str, rLen_tup, rLen_scr, rTuple_tup, rList_tup, rIn_s1, rIn_s2, rIn_s3, rMax2_int, rMin2_int, rInt1_int, rSl_str, rSl_tup, rev_app, revK_tup, seqX_app, seqK_tup, seqK_str, zip_app, zipK_tup, rLt_int, rLe_int, rGt_int, rGe_int, rLt_str, rLe_str, rGt_str, rGe_str, rOrd_encS, DD.rEq_int, DD.rEq_str, DD.rEq_bl, DD.rNe_int, DD.rNe_str, rEq_encS, rEq_encO, rEq_OS, atI_0, atI_1, atI_2, atI_3, atI_4, atI_5, atI_snoc, ob_some, gup_same, List.map_cons, List.map_nil, List.length_cons, List.length_nil, List.cons_append, List.nil_append, List.getElem?_cons_zero, List.getElem?_cons_succ, List.set_cons_zero, List.set_cons_succ, List.replicate_zero, List.replicate_succ, Nat.reduceSub, Nat.reduceAdd, if_true, if_false, Bool.false_eq_true, Bool.not_true, Bool.not_false, true_and, and_true]
  refine lcL_ind (fun i acc G => acc = (sws (L.take i) g).map encW) ?_ ?_ _ _ rfl
  · rintro i d F hd hF acc G rfl
    obtain ⟨e, he, rfl, hm⟩ := map_get hd
    refine ⟨trivial, ?_⟩
    simp only [set_app, drop_app, ret_app, asg_app, par_app, par3_app, put_app, next_app, cont_app, break_app, seq_set, seq_drop, seq_ret, seq_asg, seq_par, seq_par3, seq_put, seq_next, dOp, dUn, dVar, dC, dTup, dLst, dNil, dCons, dCall, dCB, dBM, isTy_str, dTB, dAndT, dOrT, dNotT, dAnd, dOr, dNot, dIf, dTru, truth, dChain, dSl, dPart, dNoPart,  dLc,  dRng1, dRng2,  dEnumT, dgName, dgTup, dgCons, dgNil, dDct0, dYes, dwipe, dstart, rAdd_int, rAdd_str, rAdd_tup, rSub_int, rMul_int, rMod_int, rFdiv_int, rNeg_int, rIs_non, rIsNot_non, rIs_bl, DD.isNonD,  rIx_str, rIx_tup, rIx_scr, rLen_str, rLen_tup, rLen_scr, rTuple_tup, rList_tup, rIn_s1, rIn_s2, rIn_s3, rMax2_int, rMin2_int, rInt1_int, rSl_str, rSl_tup, rev_app, revK_tup, seqX_app, seqK_tup, seqK_str, zip_app, zipK_tup, rLt_int, rLe_int, rGt_int, rGe_int, rLt_str, rLe_str, rGt_str, rGe_str, rOrd_encS, DD.rEq_int, DD.rEq_str, DD.rEq_bl, DD.rNe_int, DD.rNe_str, rEq_encS, rEq_encO, rEq_OS, atI_0, atI_1, atI_2, atI_3, atI_4, atI_5, atI_snoc, ob_some, gup_same, List.map_cons, List.map_nil, List.length_cons, List.length_nil, List.cons_append, List.nil_append, List.getElem?_cons_zero, List.getElem?_cons_succ, List.set_cons_zero, List.set_cons_succ, List.replicate_zero, List.replicate_succ, Nat.reduceSub, Nat.reduceAdd, if_true, if_false, Bool.false_eq_true, Bool.not_true, Bool.not_false, true_and, and_true]
    obtain ⟨q, eq, q1, q0⟩ := atI_at1 (d := e)
    rw [eq, rIx_tup, q0, ob_some, rIn_s2, word_sw, ← eq]
    have eT := take_snoc he
    cases e with
    | sw on s g' =>
      simp only [if_true]
      rw [encD_sw, rIx_tup, atI_2, ob_some, rEq_encS, ← encD_sw]
      by_cases hg : g' = g
      · subst hg
        simp only [decide_true, if_true]
        rw [encD_sw, rSl_tup, rSl_tup, rAdd_tup]
        refine ⟨Nat.le_trans (Nat.add_le_add (cut_le _ _ _) (cut_le _ _ _)) (by show 3 + 3 ≤ 16777216; omega), ?_⟩
        show F (List.map encW (sws (List.take i L) g') ++ [encW (s, on)]) G
        refine hF _ _ ?_
        rw [eT, sws_snoc]
        simp only [swOf, if_true, List.map_append, List.map_cons, List.map_nil]
      · simp only [hg, decide_false, Bool.false_eq_true, if_false]
        refine hF _ _ ?_
        rw [eT, sws_snoc]
        simp only [swOf, hg, if_false, List.append_nil]
    | _ =>
      simp only [Bool.false_eq_true, if_false]
      refine hF _ _ ?_
      rw [eT, sws_snoc]
      simp only [swOf, List.append_nil]
  · rintro acc G rfl
    refine ⟨trivial, fun p hp => ?_⟩
    simp only [set_app, drop_app, ret_app, asg_app, par_app, par3_app, put_app, next_app, cont_app, break_app, seq_set, seq_drop, seq_ret, seq_asg, seq_par, seq_par3, seq_put, seq_next, dOp, dUn, dVar, dC, dTup, dLst, dNil, dCons, dCall, dCB, dBM, isTy_str, dTB, dAndT, dOrT, dNotT, dAnd, dOr, dNot, dIf, dTru, truth, dChain, dSl, dPart, dNoPart,  dLc,  dRng1, dRng2,  dEnumT, dgName, dgTup, dgCons, dgNil, dDct0, dYes, dwipe, dstart, rAdd_int, rAdd_str, rAdd_tup, rSub_int, rMul_int, rMod_int, rFdiv_int, rNeg_int, rIs_non, rIsNot_non, rIs_bl, DD.isNonD,  rIx_str, rIx_tup, rIx_scr, rLen_str, rLen_tup, rLen_scr, rTuple_tup, rList_tup, rIn_s1, rIn_s2, rIn_s3, rMax2_int, rMin2_int, rInt1_int, rSl_str, rSl_tup, rev_app, revK_tup, seqX_app, seqK_tup, seqK_str, zip_app, zipK_tup, rLt_int, rLe_int, rGt_int, rGe_int, rLt_str, rLe_str, rGt_str, rGe_str, rOrd_encS, DD.rEq_int, DD.rEq_str, DD.rEq_bl, DD.rNe_int, DD.rNe_str, rEq_encS, rEq_encO, rEq_OS, atI_0, atI_1, atI_2, atI_3, atI_4, atI_5, atI_snoc, ob_some, gup_same, List.map_cons, List.map_nil, List.length_cons, List.length_nil, List.cons_append, List.nil_append, List.getElem?_cons_zero, List.getElem?_cons_succ, List.set_cons_zero, List.set_cons_succ, List.replicate_zero, List.replicate_succ, Nat.reduceSub, Nat.reduceAdd, if_true, if_false, Bool.false_eq_true, Bool.not_true, Bool.not_false, true_and, and_true]
    rw [List.length_map, List.take_length]
    have hs := sws_sorted hW.sorted g
    cases e : sws L g with
    | nil =>
      simp only [List.map_nil, List.isEmpty_nil, Bool.not_true, Bool.not_false, if_true]
      unfold M.counts
      rw [e]
      rfl
    | cons x l =>
      rw [e] at hs
      simp only [List.map_cons, List.isEmpty_cons, Bool.not_false, Bool.not_true, Bool.false_eq_true, if_false]
      refine rMax_sws hs gup_same ?_
      show DD.rIx (.tup [encS _, .str _]) _ _ _
      rw [rIx_tup, atI_1, ob_some, DD.rEq_str]
      unfold M.counts
      rw [e, List.getLast?_eq_some_getLast (List.cons_ne_nil _ _)]
      simp only [Option.map_some, Option.getD_some]
      cases ((x :: l).getLast (List.cons_ne_nil _ _)).2
      · exact congrArg D.bl (by decide +kernel : (Str.ofString "off" == Str.ofString "on") = false)
      · exact congrArg D.bl (by decide +kernel : (Str.ofString "on" == Str.ofString "on") = true)
theorem good_counts {P : Program} {w : World} {K : PySem.W.Frag} {mg : Str → Option Value} {base : Heap} (D0 : DefAt K mg "counts" (top 3)) (g_max : mg "max" = none) : Good P w K mg base "counts" ps_counts 1 sp_counts :=
  goodP D0 sc_counts t_counts bind_counts len_counts (fun f cdv A outer s H E hr => der_counts g_max f cdv A outer s H E hr) pure_counts
def rel_is_shown (ds : List D) (d : D) : Prop := ∃ L g, PreG ds L g ∧ d = .bl (M.shown L g)
def sp_is_shown : DSp := spP rel_is_shown
abbrev N_is_shown : List Str := ["deeds", "stamp", "cuts", "deed", "cut"]
abbrev ps_is_shown : List Str := ["deeds", "stamp"]
def t_is_shown : DTS :=
  (dSeq (dSet 2 (dLc (dSeqX (dVar 0)) (dgName 3) (dAndT (dTB (dOp rEq (dOp rIx (dVar 3) (dC (.int 0))) (dC (.str "cut")))) (dTB (dOp rEq (dOp rIx (dVar 3) (dC (.int 2))) (dVar 1)))) (dOp rIx (dVar 3) (dC (.int 1))) [3])) (dRet (dAnd (dCall sp_counts ex0 (dCons (dVar 0) (dCons (dVar 1) dNil))) (dNot (dCB rAny (dCons (dLc (dSeqX (dVar 2)) (dgName 4) dYes (dCall sp_counts ex0 (dCons (dVar 0) (dCons (dVar 4) dNil))) [4]) dNil))))))
theorem sc_is_shown : FnScope N_is_shown ps_is_shown (defScope (top 4)) := ⟨rfl, rfl, rfl, by decide +kernel, rfl, by decide +kernel, by decide +kernel⟩
theorem der_is_shown {P : Program} {w : World} {K : PySem.W.Frag} {mg : Str → Option Value} {base : Heap} (g_any : mg "any" = none) (G_counts : Good P w K mg base "counts" ps_counts 1 sp_counts) (f : Addr) (cdv : Value) (A : Around) (outer : List Env) (s : Shared) (H : Hp) (E : XK)
    (hr : Room 1 (A.deeper (envOfC "is_shown" (defScope (top 4)) s.heap.objs.size f cdv))) :
    DSs (cxOf CX0 P w K mg base N_is_shown "is_shown" (defScope (top 4)) f cdv A outer s H E).nox (Rg.top K w) (defBody (top 4)) t_is_shown := by
  have S := sc_is_shown
  exact (dss_cons (ds_setLc (i := 2) (own := [("deed", 3)]) rfl S.nd rfl rfl rfl (di_seq (de_var (pv 0))) (show BlkOk N_is_shown (defScope (top 4)) _ _ from ⟨rfl, by decide +kernel, by decide +kernel, by decide +kernel, by decide +kernel⟩) (fun _ _ _ _ _ => (dg_name (pg_name (i := 3) S.nd rfl (by first | exact Or.inl rfl | exact Or.inr rfl)) (by decide) (by decide))) (fun _ _ _ _ _ => (dts_one (dt_w (dw_and (dt_cmp (op_eqD hr.units) (de_ix (ix_D hr.units) (de_var (pv 3)) de_int) de_str (by rfl)) (dw_and1 (dt_cmp (op_eqD hr.units) (de_ix (ix_D hr.units) (de_var (pv 3)) de_int) (de_var (pv 1)) (by rfl))))))) (fun _ _ _ _ _ => (de_ix (ix_D hr.units) (de_var (pv 3)) de_int)))
    (dss_one (ds_ret (de_and (de_callG G_counts hr rfl (da_cons (de_var (pv 0)) (da_cons (de_var (pv 1)) da_nil))) (de_one (de_not (de_callB (call_anyD rfl) rfl g_any rfl (da_cons (de_lc (own := [("cut", 4)]) rfl S.nd (di_seq (de_var (pv 2))) (show BlkOk N_is_shown (defScope (top 4)) _ _ from ⟨rfl, by decide +kernel, by decide +kernel, by decide +kernel, by decide +kernel⟩) (fun _ _ _ _ _ => (dg_name (pg_name (i := 4) S.nd rfl (by first | exact Or.inl rfl | exact Or.inr rfl)) (by decide) (by decide))) (fun _ _ _ _ _ => dts_nil) (fun _ _ _ _ _ => (de_callG G_counts hr rfl (da_cons (de_var (pv 0)) (da_cons (de_var (pv 4)) da_nil))))) da_nil))))))))
theorem bind_is_shown (kV doc pm : Value) (an : Option Addr) (cdv ct : Value) (us : List Value) (hl : us.length = ps_is_shown.length) : bindArgs (PySem.W.fnOf "is_shown" "is_shown" (defArgs (top 4)) (defBody (top 4)) (defScope (top 4)) .none kV doc pm an cdv ct) ⟨us, []⟩ = pure (ps_is_shown.zip us) := match us, hl with | [_, _], _ => rfl
theorem len_is_shown : ∀ ds d, rel_is_shown ds d → ds.length = ps_is_shown.length := by
  rintro ds d ⟨L, g, ⟨rfl, _⟩, _⟩; rfl
theorem counts_use {L : List Deed} {g : Stp} {G : DG} {Q : DK} {RE : DX} (hW : Wf L) (hL : L.length ≤ 1000) (q : Q (.bl (M.counts L g)) G) : sp_counts [.tup (L.map M.encD), encS g] G Q RE := ⟨_, ⟨L, g, ⟨rfl, hW, hL⟩, rfl⟩, q⟩
theorem word_cut (d : Deed) : (d.word == Str.ofString "cut") = (match d with | .cut _ _ => true | _ => false) := by
  cases d with
  | sw on s g =>
    cases on
    · exact (by decide +kernel : (Str.ofString "off" == Str.ofString "cut") = false)
    · exact (by decide +kernel : (Str.ofString "on" == Str.ofString "cut") = false)
  | write s a c => exact (by decide +kernel : (Str.ofString "write" == Str.ofString "cut") = false)
  | cut s g => exact (by decide +kernel : (Str.ofString "cut" == Str.ofString "cut") = true)
  | mark s b f e v => exact (by decide +kernel : (Str.ofString "mark" == Str.ofString "cut") = false)
theorem pure_is_shown : ∀ ds d, rel_is_shown ds d → t_is_shown { nx := fun _ _ => .non = d, rt := fun d' _ => d' = d } (dstart N_is_shown ds) g0 := by
  rintro ds d ⟨L, g, ⟨rfl, hW, hL⟩, rfl⟩
  simp only [t_is_shown, N_is_shown, set_app, drop_app, ret_app, asg_app, par_app, par3_app, put_app, next_app, cont_app, break_app, seq_set, seq_drop, seq_ret, seq_asg, seq_par, seq_par3, seq_put, seq_next, dOp, dUn, dVar, dC, dTup, dLst, dNil, dCons, dCall, dCB, dBM, isTy_str, dTB, dAndT, dOrT, dNotT, dAnd, dOr, dNot, dIf, dTru, truth, dChain, dSl, dPart, dNoPart,  dLc,  dRng1, dRng2,  dEnumT, dgName, dgTup, dgCons, dgNil, dDct0, dYes, dwipe, dstart, rAdd_int, rAdd_str, rAdd_tup, rSub_int, rMul_int, rMod_int, rFdiv_int, rNeg_int, rIs_non, rIsNot_non, rIs_bl, DD.isNonD,  rIx_str, rIx_tup, rIx_scr, rLen_str, rLen_tup, rLen_scr, rTuple_tup, rList_tup, rIn_s1, rIn_s2, rIn_s3, rMax2_int, rMin2_int, rInt1_int, rSl_str, rSl_tup, rev_app, revK_tup, seqX_app, seqK_tup, seqK_str, zip_app, zipK_tup, rLt_int, rLe_int, rGt_int, rGe_int, rLt_str, rLe_str, rGt_str, rGe_str, rOrd_encS, DD.rEq_int, DD.rEq_str, DD.rEq_bl, DD.rNe_int, DD.rNe_str, rEq_encS, rEq_encO, rEq_OS, atI_0, atI_1, atI_2, atI_3, atI_4, atI_5, atI_snoc, ob_some, gup_same, List.map_cons, List.map_nil, List.length_cons, List.length_nil, List.cons_append, List.nil_append, List.getElem?_cons_zero, List.getElem?_cons_succ, List.set_cons_zero, List.set_cons_succ, List.replicate_zero, List.replicate_succ, Nat.reduceSub, Nat.reduceAdd, if_true, if_false, Bool.false_eq_true, Bool.not_true, Bool.not_false, true_and, and_true]
  refine lcL_ind (fun i acc G => acc = (cuts (L.take i) g).map encS) ?_ ?_ _ _ rfl
  · rintro i d F hd hF acc G rfl
    obtain ⟨e, he, rfl, hm⟩ := map_get hd
    refine ⟨trivial, ?_⟩
    simp only [set_app, drop_app, ret_app, asg_app, par_app, par3_app, put_app, next_app, cont_app, break_app, seq_set, seq_drop, seq_ret, seq_asg, seq_par, seq_par3, seq_put, seq_next, dOp, dUn, dVar, dC, dTup, dLst, dNil, dCons, dCall, dCB, dBM, isTy_str, dTB, dAndT, dOrT, dNotT, dAnd, dOr, dNot, dIf, dTru, truth, dChain, dSl, dPart, dNoPart,  dLc,  dRng1, dRng2,  dEnumT, dgName, dgTup, dgCons, dgNil, dDct0, dYes, dwipe, dstart, rAdd_int, rAdd_str, rAdd_tup, rSub_int, rMul_int, rMod_int, rFdiv_int, rNeg_int, rIs_non, rIsNot_non, rIs_bl, DD.isNonD,  rIx_str, rIx_tup, rIx_scr, rLen_str, rLen_tup, rLen_scr, rTuple_tup, rList_tup, rIn_s1, rIn_s2, rIn_s3, rMax2_int, rMin2_int, rInt1_int, rSl_str, rSl_tup, rev_app, revK_tup, seqX_app, seqK_tup, seqK_str, zip_app, zipK_tup, rLt_int, rLe_int, rGt_int, rGe_int, rLt_str, rLe_str, rGt_str, rGe_str, rOrd_encS, DD.rEq_int, DD.rEq_str, DD.rEq_bl, DD.rNe_int, DD.rNe_str, rEq_encS, rEq_encO, rEq_OS, atI_0, atI_1, atI_2, atI_3, atI_4, atI_5, atI_snoc, ob_some, gup_same, List.map_cons, List.map_nil, List.length_cons, List.length_nil, List.cons_append, List.nil_append, List.getElem?_cons_zero, List.getElem?_cons_succ, List.set_cons_zero, List.set_cons_succ, List.replicate_zero, List.replicate_succ, Nat.reduceSub, Nat.reduceAdd, if_true, if_false, Bool.false_eq_true, Bool.not_true, Bool.not_false, true_and, and_true]
    obtain ⟨q, eq, q1, q0⟩ := atI_at1 (d := e)
    rw [eq, rIx_tup, q0, ob_some, DD.rEq_str, word_cut, ← eq]
    have eT := take_snoc he
    cases e with
    | cut s g' =>
      simp only [if_true]
      rw [encD_cut, rIx_tup, atI_2, ob_some, rEq_encS, ← encD_cut]
      by_cases hg : g' = g
      · subst hg
        simp only [decide_true, if_true]
        rw [encD_cut, rIx_tup, atI_1, ob_some]
        refine hF _ _ ?_
        rw [eT, cuts_snoc]
        simp only [cutOf, if_true, List.map_append, List.map_cons, List.map_nil]
      · simp only [hg, decide_false, Bool.false_eq_true, if_false]
        refine hF _ _ ?_
        rw [eT, cuts_snoc]
        simp only [cutOf, hg, if_false, List.append_nil]
    | _ =>
      simp only [Bool.false_eq_true, if_false]
      refine hF _ _ ?_
      rw [eT, cuts_snoc]
      simp only [cutOf, List.append_nil]
  · rintro acc G rfl
    refine ⟨trivial, fun p hp => ?_⟩
    rw [List.length_map, List.take_length]
    refine counts_use hW hL ?_
    simp only [set_app, drop_app, ret_app, asg_app, par_app, par3_app, put_app, next_app, cont_app, break_app, seq_set, seq_drop, seq_ret, seq_asg, seq_par, seq_par3, seq_put, seq_next, dOp, dUn, dVar, dC, dTup, dLst, dNil, dCons, dCall, dCB, dBM, isTy_str, dTB, dAndT, dOrT, dNotT, dAnd, dOr, dNot, dIf, dTru, truth, dChain, dSl, dPart, dNoPart,  dLc,  dRng1, dRng2,  dEnumT, dgName, dgTup, dgCons, dgNil, dDct0, dYes, dwipe, dstart, rAdd_int, rAdd_str, rAdd_tup, rSub_int, rMul_int, rMod_int, rFdiv_int, rNeg_int, rIs_non, rIsNot_non, rIs_bl, DD.isNonD,  rIx_str, rIx_tup, rIx_scr, rLen_str, rLen_tup, rLen_scr, rTuple_tup, rList_tup, rIn_s1, rIn_s2, rIn_s3, rMax2_int, rMin2_int, rInt1_int, rSl_str, rSl_tup, rev_app, revK_tup, seqX_app, seqK_tup, seqK_str, zip_app, zipK_tup, rLt_int, rLe_int, rGt_int, rGe_int, rLt_str, rLe_str, rGt_str, rGe_str, rOrd_encS, DD.rEq_int, DD.rEq_str, DD.rEq_bl, DD.rNe_int, DD.rNe_str, rEq_encS, rEq_encO, rEq_OS, atI_0, atI_1, atI_2, atI_3, atI_4, atI_5, atI_snoc, ob_some, gup_same, List.map_cons, List.map_nil, List.length_cons, List.length_nil, List.cons_append, List.nil_append, List.getElem?_cons_zero, List.getElem?_cons_succ, List.set_cons_zero, List.set_cons_succ, List.replicate_zero, List.replicate_succ, Nat.reduceSub, Nat.reduceAdd, if_true, if_false, Bool.false_eq_true, Bool.not_true, Bool.not_false, true_and, and_true]
    by_cases hc : M.counts L g = true
    · simp only [hc, if_true]
      rw [seqK_lst gup_same]
      refine lcL_ind (fun i acc G => acc = (((cuts L g).take i).map (M.counts L)).map .bl ∧ G p = some (.lst ((cuts L g).map encS))) ?_ ?_ _ _ ⟨by simp, gup_same⟩
      · rintro i d F hd hF acc G ⟨rfl, hG⟩
        obtain ⟨e, he, rfl, hm⟩ := map_get hd
        refine ⟨hG, ?_⟩
        simp only [set_app, drop_app, ret_app, asg_app, par_app, par3_app, put_app, next_app, cont_app, break_app, seq_set, seq_drop, seq_ret, seq_asg, seq_par, seq_par3, seq_put, seq_next, dOp, dUn, dVar, dC, dTup, dLst, dNil, dCons, dCall, dCB, dBM, isTy_str, dTB, dAndT, dOrT, dNotT, dAnd, dOr, dNot, dIf, dTru, truth, dChain, dSl, dPart, dNoPart,  dLc,  dRng1, dRng2,  dEnumT, dgName, dgTup, dgCons, dgNil, dDct0, dYes, dwipe, dstart, rAdd_int, rAdd_str, rAdd_tup, rSub_int, rMul_int, rMod_int, rFdiv_int, rNeg_int, rIs_non, rIsNot_non, rIs_bl, DD.isNonD,  rIx_str, rIx_tup, rIx_scr, rLen_str, rLen_tup, rLen_scr, rTuple_tup, rList_tup, rIn_s1, rIn_s2, rIn_s3, rMax2_int, rMin2_int, rInt1_int, rSl_str, rSl_tup, rev_app, revK_tup, seqX_app, seqK_tup, seqK_str, zip_app, zipK_tup, rLt_int, rLe_int, rGt_int, rGe_int, rLt_str, rLe_str, rGt_str, rGe_str, rOrd_encS, DD.rEq_int, DD.rEq_str, DD.rEq_bl, DD.rNe_int, DD.rNe_str, rEq_encS, rEq_encO, rEq_OS, atI_0, atI_1, atI_2, atI_3, atI_4, atI_5, atI_snoc, ob_some, gup_same, List.map_cons, List.map_nil, List.length_cons, List.length_nil, List.cons_append, List.nil_append, List.getElem?_cons_zero, List.getElem?_cons_succ, List.set_cons_zero, List.set_cons_succ, List.replicate_zero, List.replicate_succ, Nat.reduceSub, Nat.reduceAdd, if_true, if_false, Bool.false_eq_true, Bool.not_true, Bool.not_false, true_and, and_true]
        refine counts_use hW hL (hF _ _ ⟨?_, hG⟩)
        rw [take_snoc he]
        simp
      · rintro acc G ⟨rfl, hG⟩
        refine ⟨hG, fun p2 hp2 => ?_⟩
        rw [rAny_lst gup_same]
        simp only [set_app, drop_app, ret_app, asg_app, par_app, par3_app, put_app, next_app, cont_app, break_app, seq_set, seq_drop, seq_ret, seq_asg, seq_par, seq_par3, seq_put, seq_next, dOp, dUn, dVar, dC, dTup, dLst, dNil, dCons, dCall, dCB, dBM, isTy_str, dTB, dAndT, dOrT, dNotT, dAnd, dOr, dNot, dIf, dTru, truth, dChain, dSl, dPart, dNoPart,  dLc,  dRng1, dRng2,  dEnumT, dgName, dgTup, dgCons, dgNil, dDct0, dYes, dwipe, dstart, rAdd_int, rAdd_str, rAdd_tup, rSub_int, rMul_int, rMod_int, rFdiv_int, rNeg_int, rIs_non, rIsNot_non, rIs_bl, DD.isNonD,  rIx_str, rIx_tup, rIx_scr, rLen_str, rLen_tup, rLen_scr, rTuple_tup, rList_tup, rIn_s1, rIn_s2, rIn_s3, rMax2_int, rMin2_int, rInt1_int, rSl_str, rSl_tup, rev_app, revK_tup, seqX_app, seqK_tup, seqK_str, zip_app, zipK_tup, rLt_int, rLe_int, rGt_int, rGe_int, rLt_str, rLe_str, rGt_str, rGe_str, rOrd_encS, DD.rEq_int, DD.rEq_str, DD.rEq_bl, DD.rNe_int, DD.rNe_str, rEq_encS, rEq_encO, rEq_OS, atI_0, atI_1, atI_2, atI_3, atI_4, atI_5, atI_snoc, ob_some, gup_same, List.map_cons, List.map_nil, List.length_cons, List.length_nil, List.cons_append, List.nil_append, List.getElem?_cons_zero, List.getElem?_cons_succ, List.set_cons_zero, List.set_cons_succ, List.replicate_zero, List.replicate_succ, Nat.reduceSub, Nat.reduceAdd, if_true, if_false, Bool.false_eq_true, Bool.not_true, Bool.not_false, true_and, and_true]
        rw [List.length_map, List.take_length]
        unfold M.shown
        rw [hc]
        rfl
    · simp only [hc, if_false]
      unfold M.shown
      have : M.counts L g = false := by simpa using hc
      rw [this]
      rfl
theorem good_is_shown {P : Program} {w : World} {K : PySem.W.Frag} {mg : Str → Option Value} {base : Heap} (D0 : DefAt K mg "is_shown" (top 4)) (g_any : mg "any" = none) (G_counts : Good P w K mg base "counts" ps_counts 1 sp_counts) : Good P w K mg base "is_shown" ps_is_shown 2 sp_is_shown :=
  goodP D0 sc_is_shown t_is_shown bind_is_shown len_is_shown (fun f cdv A outer s H E hr => der_is_shown g_any G_counts f cdv A outer s H E hr) pure_is_shown
end K

namespace K
open PySem PySem.Spec PyProof.Rows L2 DD M
def rel_order (ds : List D) (d : D) : Prop := ∃ L : List Deed, ds = [D.tup (L.map M.encD)] ∧ Wf L ∧ L.length ≤ 1000 ∧ d = .tup ((ordI L).map encS)
def sp_order : DSp := spP rel_order
abbrev N_order : List Str := ["deeds", "behind", "deed", "found", "left", "stamp"]
abbrev ps_order : List Str := ["deeds"]
def t_order : DTS :=
  (dSeq (dSet 1 dDct0) (dSeq (dFor (dSeqX (dVar 0)) (dgName 2) (dIfS (dTB (dOp rEq (dOp rIx (dVar 2) (dC (.int 0))) (dC (.str "write")))) (dDrop (dBM "list" rAppend (dBM "dict" rSetDef (dVar 1) (dCons (dOp rIx (dVar 2) (dC (.int 2))) (dCons (dLst dNil) dNil))) (dCons (dOp rIx (dVar 2) (dC (.int 1))) dNil))) dNext)) (dSeq (dSet 3 (dLst dNil)) (dSeq (dSet 4 (dCB rSorted (dCons (dBM "dict" rGet (dVar 1) (dCons (dC .non) (dCons (dLst dNil) dNil))) dNil))) (dSeq (dWhile (dTru (dVar 4)) (dSeq (dSet 5 (dBM "list" rPop (dVar 4) dNil)) (dSeq (dDrop (dBM "list" rAppend (dVar 3) (dCons (dVar 5) dNil))) (dDrop (dBM "list" rExtend (dVar 4) (dCons (dCB rSorted (dCons (dBM "dict" rGet (dVar 1) (dCons (dVar 5) (dCons (dLst dNil) dNil))) dNil)) dNil)))))) (dRet (dCB rTuple (dCons (dVar 3) dNil))))))))
theorem sc_order : FnScope N_order ps_order (defScope (top 2)) := ⟨rfl, rfl, rfl, by decide +kernel, rfl, by decide +kernel, by decide +kernel⟩
theorem der_order {P : Program} {w : World} {K : PySem.W.Frag} {mg : Str → Option Value} {base : Heap} (g_sorted : mg "sorted" = none) (g_tuple : mg "tuple" = none) (f : Addr) (cdv : Value) (A : Around) (outer : List Env) (s : Shared) (H : Hp) (E : XK)
    (hr : Room 0 (A.deeper (envOfC "order" (defScope (top 2)) s.heap.objs.size f cdv))) :
    DSs (cxOf CX0 P w K mg base N_order "order" (defScope (top 2)) f cdv A outer s H E).nox (Rg.top K w) (defBody (top 2)) t_order := by
  have S := sc_order
  exact (dss_cons (ds_set (i := 1) S.nd rfl (by first | exact Or.inl rfl | exact Or.inr rfl) de_dct0)
    (dss_cons (ds_for (vs := [2]) PassesOwn.never rfl (di_seq (de_var (pv 0))) (dg_name (pg_name (i := 2) S.nd rfl (by first | exact Or.inl rfl | exact Or.inr rfl)) (by decide) (by decide)) (dss_one (ds_if (dt_cmp (op_eqD hr.units) (de_ix (ix_D hr.units) (de_var (pv 2)) de_int) de_str (by rfl)) (dss_one (ds_expr (de_bm F.plainAttrs_list F.slot_list_append F.type_list_append mt_appendD (de_bm F.plainAttrs_dict F.slot_dict_setdefault F.type_dict_setdefault (mt_setdefaultU hr.units) (de_var (pv 1)) (da_cons (de_ix (ix_D hr.units) (de_var (pv 2)) de_int) (da_cons (de_lst da_nil) da_nil))) (da_cons (de_ix (ix_D hr.units) (de_var (pv 2)) de_int) da_nil)))) dss_nil)))
    (dss_cons (ds_set (i := 3) S.nd rfl (by first | exact Or.inl rfl | exact Or.inr rfl) (de_lst da_nil))
    (dss_cons (ds_set (i := 4) S.nd rfl (by first | exact Or.inl rfl | exact Or.inr rfl) (de_callB (call_sortedD rfl) rfl g_sorted rfl (da_cons (de_bm F.plainAttrs_dict F.slot_dict_get F.type_dict_get (mt_getU hr.units) (de_var (pv 1)) (da_cons de_non (da_cons (de_lst da_nil) da_nil))) da_nil)))
    (dss_cons (ds_while PassesOwn.never (dt_truth (de_var (pv 4))) (dss_cons (ds_set (i := 5) S.nd rfl (by first | exact Or.inl rfl | exact Or.inr rfl) (de_bm0 F.plainAttrs_list F.slot_list_pop F.type_list_pop mt_popD (de_var (pv 4))))
    (dss_cons (ds_expr (de_bm F.plainAttrs_list F.slot_list_append F.type_list_append mt_appendD (de_var (pv 3)) (da_cons (de_var (pv 5)) da_nil)))
    (dss_one (ds_expr (de_bm F.plainAttrs_list F.slot_list_extend F.type_list_extend mt_extendD (de_var (pv 4)) (da_cons (de_callB (call_sortedD rfl) rfl g_sorted rfl (da_cons (de_bm F.plainAttrs_dict F.slot_dict_get F.type_dict_get (mt_getU hr.units) (de_var (pv 1)) (da_cons (de_var (pv 5)) (da_cons (de_lst da_nil) da_nil))) da_nil)) da_nil)))))))
    (dss_one (ds_ret (de_callTy call_tupleD rfl g_tuple rfl (da_cons (de_var (pv 3)) da_nil)))))))))
theorem bind_order (kV doc pm : Value) (an : Option Addr) (cdv ct : Value) (us : List Value) (hl : us.length = ps_order.length) : bindArgs (PySem.W.fnOf "order" "order" (defArgs (top 2)) (defBody (top 2)) (defScope (top 2)) .none kV doc pm an cdv ct) ⟨us, []⟩ = pure (ps_order.zip us) := match us, hl with | [_], _ => rfl
theorem len_order : ∀ ds d, rel_order ds d → ds.length = ps_order.length := by
  rintro ds d ⟨L, rfl, _⟩; rfl
theorem word_write (d : Deed) : (d.word == Str.ofString "write") = (match d with | .write _ _ _ => true | _ => false) := by
  cases d with
  | sw on s g =>
    cases on
    · exact (by decide +kernel : (Str.ofString "off" == Str.ofString "write") = false)
    · exact (by decide +kernel : (Str.ofString "on" == Str.ofString "write") = false)
  | write s a c => exact (by decide +kernel : (Str.ofString "write" == Str.ofString "write") = true)
  | cut s g => exact (by decide +kernel : (Str.ofString "cut" == Str.ofString "write") = false)
  | mark s b f e v => exact (by decide +kernel : (Str.ofString "mark" == Str.ofString "write") = false)
theorem pure_order : ∀ ds d, rel_order ds d → t_order { nx := fun _ _ => .non = d, rt := fun d' _ => d' = d } (dstart N_order ds) g0 := by
  rintro ds d ⟨L, rfl, hW, hL, rfl⟩
  simp only [t_order, N_order, set_app, drop_app, ret_app, asg_app, par_app, par3_app, put_app, next_app, cont_app, break_app, seq_set, seq_drop, seq_ret, seq_asg, seq_par, seq_par3, seq_put, seq_next, dOp, dUn, dVar, dC, dTup, dLst, dNil, dCons, dCall, dCB, dBM, isTy_str, dTB, dAndT, dOrT, dNotT, dAnd, dOr, dNot, dIf, dTru, truth, dChain, dSl, dPart, dNoPart,  dLc,  dRng1, dRng2,  dEnumT, dgName, dgTup, dgCons, dgNil, dDct0, dYes, dwipe, dstart, rAdd_int, rAdd_str, rAdd_tup, rSub_int, rMul_int, rMod_int, rFdiv_int, rNeg_int, rIs_non, rIsNot_non, rIs_bl, DD.isNonD,  rIx_str, rIx_tup, rIx_scr, rLen_str, rLen_tup, rLen_scr, rTuple_tup, rList_tup, rIn_s1, rIn_s2, rIn_s3, rMax2_int, rMin2_int, rInt1_int, rSl_str, rSl_tup, rev_app, revK_tup, seqX_app, seqK_tup, seqK_str, zip_app, zipK_tup, rLt_int, rLe_int, rGt_int, rGe_int, rLt_str, rLe_str, rGt_str, rGe_str, rOrd_encS, DD.rEq_int, DD.rEq_str, DD.rEq_bl, DD.rNe_int, DD.rNe_str, rEq_encS, rEq_encO, rEq_OS, atI_0, atI_1, atI_2, atI_3, atI_4, atI_5, atI_snoc, ob_some, gup_same, List.map_cons, List.map_nil, List.length_cons, List.length_nil, List.cons_append, List.nil_append, List.getElem?_cons_zero, List.getElem?_cons_succ, List.set_cons_zero, List.set_cons_succ, List.replicate_zero, List.replicate_succ, Nat.reduceSub, Nat.reduceAdd, if_true, if_false, Bool.false_eq_true, Bool.not_true, Bool.not_false, true_and, and_true]
  intro pb hpb
  rw [seq_for]
  simp only [set_app, drop_app, ret_app, asg_app, par_app, par3_app, put_app, next_app, cont_app, break_app, seq_set, seq_drop, seq_ret, seq_asg, seq_par, seq_par3, seq_put, seq_next, dOp, dUn, dVar, dC, dTup, dLst, dNil, dCons, dCall, dCB, dBM, isTy_str, dTB, dAndT, dOrT, dNotT, dAnd, dOr, dNot, dIf, dTru, truth, dChain, dSl, dPart, dNoPart,  dLc,  dRng1, dRng2,  dEnumT, dgName, dgTup, dgCons, dgNil, dDct0, dYes, dwipe, dstart, rAdd_int, rAdd_str, rAdd_tup, rSub_int, rMul_int, rMod_int, rFdiv_int, rNeg_int, rIs_non, rIsNot_non, rIs_bl, DD.isNonD,  rIx_str, rIx_tup, rIx_scr, rLen_str, rLen_tup, rLen_scr, rTuple_tup, rList_tup, rIn_s1, rIn_s2, rIn_s3, rMax2_int, rMin2_int, rInt1_int, rSl_str, rSl_tup, rev_app, revK_tup, seqX_app, seqK_tup, seqK_str, zip_app, zipK_tup, rLt_int, rLe_int, rGt_int, rGe_int, rLt_str, rLe_str, rGt_str, rGe_str, rOrd_encS, DD.rEq_int, DD.rEq_str, DD.rEq_bl, DD.rNe_int, DD.rNe_str, rEq_encS, rEq_encO, rEq_OS, atI_0, atI_1, atI_2, atI_3, atI_4, atI_5, atI_snoc, ob_some, gup_same, List.map_cons, List.map_nil, List.length_cons, List.length_nil, List.cons_append, List.nil_append, List.getElem?_cons_zero, List.getElem?_cons_succ, List.set_cons_zero, List.set_cons_succ, List.replicate_zero, List.replicate_succ, Nat.reduceSub, Nat.reduceAdd, if_true, if_false, Bool.false_eq_true, Bool.not_true, Bool.not_false, true_and, and_true]
  refine forL_ind (fun i δ G => (∃ prs, Beh pb i prs (kids (L.take i)) G) ∧ ∃ r, δ = [some (D.tup (List.map M.encD L)), some (.ref pb), r, none, none, none]) ?_ ?_ _ _ ⟨⟨[], .zero gup_same fun _ => rfl⟩, _, rfl⟩
  · rintro i d F hd hF δ G ⟨⟨prs, B⟩, r, rfl⟩
    obtain ⟨e, he, rfl, hm⟩ := map_get hd
    refine ⟨trivial, ?_⟩
    simp only [set_app, drop_app, ret_app, asg_app, par_app, par3_app, put_app, next_app, cont_app, break_app, seq_set, seq_drop, seq_ret, seq_asg, seq_par, seq_par3, seq_put, seq_next, dOp, dUn, dVar, dC, dTup, dLst, dNil, dCons, dCall, dCB, dBM, isTy_str, dTB, dAndT, dOrT, dNotT, dAnd, dOr, dNot, dIf, dTru, truth, dChain, dSl, dPart, dNoPart,  dLc,  dRng1, dRng2,  dEnumT, dgName, dgTup, dgCons, dgNil, dDct0, dYes, dwipe, dstart, rAdd_int, rAdd_str, rAdd_tup, rSub_int, rMul_int, rMod_int, rFdiv_int, rNeg_int, rIs_non, rIsNot_non, rIs_bl, DD.isNonD,  rIx_str, rIx_tup, rIx_scr, rLen_str, rLen_tup, rLen_scr, rTuple_tup, rList_tup, rIn_s1, rIn_s2, rIn_s3, rMax2_int, rMin2_int, rInt1_int, rSl_str, rSl_tup, rev_app, revK_tup, seqX_app, seqK_tup, seqK_str, zip_app, zipK_tup, rLt_int, rLe_int, rGt_int, rGe_int, rLt_str, rLe_str, rGt_str, rGe_str, rOrd_encS, DD.rEq_int, DD.rEq_str, DD.rEq_bl, DD.rNe_int, DD.rNe_str, rEq_encS, rEq_encO, rEq_OS, atI_0, atI_1, atI_2, atI_3, atI_4, atI_5, atI_snoc, ob_some, gup_same, List.map_cons, List.map_nil, List.length_cons, List.length_nil, List.cons_append, List.nil_append, List.getElem?_cons_zero, List.getElem?_cons_succ, List.set_cons_zero, List.set_cons_succ, List.replicate_zero, List.replicate_succ, Nat.reduceSub, Nat.reduceAdd, if_true, if_false, Bool.false_eq_true, Bool.not_true, Bool.not_false, true_and, and_true]
    rw [if_app]
    simp only [set_app, drop_app, ret_app, asg_app, par_app, par3_app, put_app, next_app, cont_app, break_app, seq_set, seq_drop, seq_ret, seq_asg, seq_par, seq_par3, seq_put, seq_next, dOp, dUn, dVar, dC, dTup, dLst, dNil, dCons, dCall, dCB, dBM, isTy_str, dTB, dAndT, dOrT, dNotT, dAnd, dOr, dNot, dIf, dTru, truth, dChain, dSl, dPart, dNoPart,  dLc,  dRng1, dRng2,  dEnumT, dgName, dgTup, dgCons, dgNil, dDct0, dYes, dwipe, dstart, rAdd_int, rAdd_str, rAdd_tup, rSub_int, rMul_int, rMod_int, rFdiv_int, rNeg_int, rIs_non, rIsNot_non, rIs_bl, DD.isNonD,  rIx_str, rIx_tup, rIx_scr, rLen_str, rLen_tup, rLen_scr, rTuple_tup, rList_tup, rIn_s1, rIn_s2, rIn_s3, rMax2_int, rMin2_int, rInt1_int, rSl_str, rSl_tup, rev_app, revK_tup, seqX_app, seqK_tup, seqK_str, zip_app, zipK_tup, rLt_int, rLe_int, rGt_int, rGe_int, rLt_str, rLe_str, rGt_str, rGe_str, rOrd_encS, DD.rEq_int, DD.rEq_str, DD.rEq_bl, DD.rNe_int, DD.rNe_str, rEq_encS, rEq_encO, rEq_OS, atI_0, atI_1, atI_2, atI_3, atI_4, atI_5, atI_snoc, ob_some, gup_same, List.map_cons, List.map_nil, List.length_cons, List.length_nil, List.cons_append, List.nil_append, List.getElem?_cons_zero, List.getElem?_cons_succ, List.set_cons_zero, List.set_cons_succ, List.replicate_zero, List.replicate_succ, Nat.reduceSub, Nat.reduceAdd, if_true, if_false, Bool.false_eq_true, Bool.not_true, Bool.not_false, true_and, and_true]
    obtain ⟨q, eq, q1, q0⟩ := atI_at1 (d := e)
    rw [eq, rIx_tup, q0, ob_some, DD.rEq_str, word_write, ← eq]
    have eT := take_snoc he
    cases e with
    | write s a c =>
      simp only [if_true]
      have hi : i < 1000 := by
        have := (List.getElem?_eq_some_iff.mp he).1
        omega
      have hk1 : kids (L.take (i + 1)) a = kids (L.take i) a ++ [s] := by
        rw [eT, kids_snoc]
        simp only [kidOf, if_true]
      have hk2 : ∀ b, b ≠ a → kids (L.take (i + 1)) b = kids (L.take i) b := fun b hb => by
        rw [eT, kids_snoc]
        simp only [kidOf, if_neg (Ne.symm hb), List.append_nil]
      have hkl : ∀ b, (kids (L.take i) b).length ≤ 1000 := fun b => Nat.le_trans (kids_len _ _) (by rw [List.length_take]; omega)
      rw [isTy_dct B.b]
      refine ⟨trivial, ?_⟩
      rw [encD_write, rIx_tup, atI_2, ob_some, ← encD_write]
      intro p hp
      have B' := B.alloc (o := .lst []) hp
      have hlen := B.len
      rw [rSetDef_dct B'.b]
      refine ⟨⟨key_ok a, by rw [List.length_map]; omega⟩, ?_⟩
      rcases get_prs (a := a) (prs := prs) with ⟨q, h1, h2⟩ | ⟨h1, h2⟩
      · rw [h2]
        simp only []
        rw [isTy_lst (B'.val _ h1)]
        refine ⟨trivial, ?_⟩
        rw [encD_write, rIx_tup, atI_1, ob_some, ← encD_write, rAppend_lst (B'.val _ h1)]
        refine ⟨by rw [List.length_map]; exact Nat.lt_of_le_of_lt (hkl a) (by omega), ?_⟩
        exact hF _ _ ⟨⟨_, B'.add h1 hk1 hk2⟩, _, rfl⟩
      · rw [h2]
        simp only []
        have npb : p ≠ pb := fun z => by rw [z, B.b] at hp; cases hp
        have hG : ∀ o, gup (gup G p (.lst [])) pb o p = some (.lst []) := fun o => by rw [gup_ne npb, gup_same]
        rw [isTy_lst (hG _)]
        refine ⟨trivial, ?_⟩
        rw [encD_write, rIx_tup, atI_1, ob_some, ← encD_write, rAppend_lst (hG _)]
        refine ⟨by show 0 < 16777216; omega, ?_⟩
        exact hF _ _ ⟨⟨_, B.new hp h1 hk1 hk2 rfl⟩, _, rfl⟩
    | _ =>
      simp only [Bool.false_eq_true, if_false]
      exact hF _ _ ⟨⟨_, B.same fun b => by rw [eT, kids_snoc]; simp [kidOf]⟩, _, rfl⟩
  · rintro δ G ⟨⟨prs, B⟩, r, rfl⟩
    rw [List.length_map, List.take_length] at B
    refine ⟨trivial, ?_⟩
    simp only [set_app, drop_app, ret_app, asg_app, par_app, par3_app, put_app, next_app, cont_app, break_app, seq_set, seq_drop, seq_ret, seq_asg, seq_par, seq_par3, seq_put, seq_next, dOp, dUn, dVar, dC, dTup, dLst, dNil, dCons, dCall, dCB, dBM, isTy_str, dTB, dAndT, dOrT, dNotT, dAnd, dOr, dNot, dIf, dTru, truth, dChain, dSl, dPart, dNoPart,  dLc,  dRng1, dRng2,  dEnumT, dgName, dgTup, dgCons, dgNil, dDct0, dYes, dwipe, dstart, rAdd_int, rAdd_str, rAdd_tup, rSub_int, rMul_int, rMod_int, rFdiv_int, rNeg_int, rIs_non, rIsNot_non, rIs_bl, DD.isNonD,  rIx_str, rIx_tup, rIx_scr, rLen_str, rLen_tup, rLen_scr, rTuple_tup, rList_tup, rIn_s1, rIn_s2, rIn_s3, rMax2_int, rMin2_int, rInt1_int, rSl_str, rSl_tup, rev_app, revK_tup, seqX_app, seqK_tup, seqK_str, zip_app, zipK_tup, rLt_int, rLe_int, rGt_int, rGe_int, rLt_str, rLe_str, rGt_str, rGe_str, rOrd_encS, DD.rEq_int, DD.rEq_str, DD.rEq_bl, DD.rNe_int, DD.rNe_str, rEq_encS, rEq_encO, rEq_OS, atI_0, atI_1, atI_2, atI_3, atI_4, atI_5, atI_snoc, ob_some, gup_same, List.map_cons, List.map_nil, List.length_cons, List.length_nil, List.cons_append, List.nil_append, List.getElem?_cons_zero, List.getElem?_cons_succ, List.set_cons_zero, List.set_cons_succ, List.replicate_zero, List.replicate_succ, Nat.reduceSub, Nat.reduceAdd, if_true, if_false, Bool.false_eq_true, Bool.not_true, Bool.not_false, true_and, and_true]
    intro pf hpf
    have B1 := B.alloc (o := .lst []) hpf
    rw [isTy_dct B1.b]
    refine ⟨trivial, fun p hp => ?_⟩
    have B2 := B1.alloc (o := .lst []) hp
    rw [rGet_dct B2.b]
    refine ⟨key_ok none, ?_⟩
    obtain ⟨q, e1, e2⟩ := B1.get hp none
    have e1 : (dgetE (keyD D.non) (List.map (fun x => (encO x.1, D.ref x.2)) prs)).getD (D.ref p) = .ref q := e1
    rw [e1, rSorted_lst e2, sortS_kids hW]
    intro pl hpl
    have B3 := B2.alloc (o := .lst (List.map encS (kids L none))) hpl
    have nf : pf ≠ p := fun z => by rw [← z, gup_same] at hp; cases hp
    have nl : pf ≠ pl := fun z => by rw [← z, gup_ne nf, gup_same] at hpl; cases hpl
    rw [seq_while]
    refine ⟨(ordI L).length + 1, whileL_ind (fun m δ G => ∃ (F S l : List Stp) (n : Nat) (r5 : Option D), F ++ l = ordI L ∧ PreL L n S.reverse l ∧ m = l.length + 1 ∧ G pf = some (.lst (F.map encS)) ∧ G pl = some (.lst (S.map encS)) ∧ (∃ prs, Beh pb L.length prs (kids L) G ∧ (∀ x ∈ prs, x.2 ≠ pf) ∧ (∀ x ∈ prs, x.2 ≠ pl)) ∧ pf ≠ pb ∧ pl ≠ pb ∧ δ = [some (D.tup (List.map M.encD L)), some (.ref pb), r, some (.ref pf), some (.ref pl), r5]) ?_ ?_ _ _ _ ?_⟩
    · rintro m F2 hF2 δ G' ⟨F, S, l, n, r5, hFl, hP, hm, gf, gl, ⟨prs', B', b1, b2⟩, b3, b4, rfl⟩
      simp only [set_app, drop_app, ret_app, asg_app, par_app, par3_app, put_app, next_app, cont_app, break_app, seq_set, seq_drop, seq_ret, seq_asg, seq_par, seq_par3, seq_put, seq_next, dOp, dUn, dVar, dC, dTup, dLst, dNil, dCons, dCall, dCB, dBM, isTy_str, dTB, dAndT, dOrT, dNotT, dAnd, dOr, dNot, dIf, dTru, truth, dChain, dSl, dPart, dNoPart,  dLc,  dRng1, dRng2,  dEnumT, dgName, dgTup, dgCons, dgNil, dDct0, dYes, dwipe, dstart, rAdd_int, rAdd_str, rAdd_tup, rSub_int, rMul_int, rMod_int, rFdiv_int, rNeg_int, rIs_non, rIsNot_non, rIs_bl, DD.isNonD,  rIx_str, rIx_tup, rIx_scr, rLen_str, rLen_tup, rLen_scr, rTuple_tup, rList_tup, rIn_s1, rIn_s2, rIn_s3, rMax2_int, rMin2_int, rInt1_int, rSl_str, rSl_tup, rev_app, revK_tup, seqX_app, seqK_tup, seqK_str, zip_app, zipK_tup, rLt_int, rLe_int, rGt_int, rGe_int, rLt_str, rLe_str, rGt_str, rGe_str, rOrd_encS, DD.rEq_int, DD.rEq_str, DD.rEq_bl, DD.rNe_int, DD.rNe_str, rEq_encS, rEq_encO, rEq_OS, atI_0, atI_1, atI_2, atI_3, atI_4, atI_5, atI_snoc, ob_some, gup_same, List.map_cons, List.map_nil, List.length_cons, List.length_nil, List.cons_append, List.nil_append, List.getElem?_cons_zero, List.getElem?_cons_succ, List.set_cons_zero, List.set_cons_succ, List.replicate_zero, List.replicate_succ, Nat.reduceSub, Nat.reduceAdd, if_true, if_false, Bool.false_eq_true, Bool.not_true, Bool.not_false, true_and, and_true]
      have hOl := (ordI_ok hW).2.2
      have hFL : F.length + l.length ≤ L.length := by rw [← List.length_append, hFl]; exact hOl
      rcases List.eq_nil_or_concat S with hS | ⟨S', s, hS⟩
      · subst hS
        rw [gl]
        have hl : l = [] := by cases hP; rfl
        subst hl
        rw [List.append_nil] at hFl
        subst hFl
        simp only [List.map_nil, List.isEmpty_nil, Bool.not_true, Bool.false_eq_true, if_false, ob_some]
        rw [rTuple_lst gf]
      · rw [List.concat_eq_append] at hS
        subst hS
        rw [List.map_append, List.map_cons, List.map_nil] at gl
        rw [gl]
        have ne : (List.map encS S' ++ [encS s]).isEmpty = false := by cases S' <;> rfl
        simp only [ob_some, ne, Bool.not_false, if_true]
        rw [isTy_lst gl, rPop_snoc gl]
        refine ⟨trivial, ?_⟩
        have gf1 : gup G' pl (.lst (List.map encS S')) pf = some (.lst (F.map encS)) := by rw [gup_ne nl]; exact gf
        have Ba := B'.other (o := .lst (List.map encS S')) b4 b2
        have Bb := Ba.other (o := .lst (List.map encS F ++ [encS s])) b3 b1
        rw [isTy_lst gf1, rAppend_lst gf1]
        refine ⟨trivial, by rw [List.length_map]; omega, ?_⟩
        rw [List.reverse_append, List.reverse_cons, List.reverse_nil, List.nil_append, List.singleton_append] at hP
        cases hP with
        | @cons _ _ la _ ra hp1 hpS =>
        generalize hG2 : gup (gup G' pl (.lst (List.map encS S'))) pf (.lst (List.map encS F ++ [encS s])) = G2 at Bb
        have gl2 : G2 pl = some (.lst (List.map encS S')) := by rw [← hG2, gup_ne (Ne.symm nl), gup_same]
        have gf2 : G2 pf = some (.lst (List.map encS F ++ [encS s])) := by rw [← hG2, gup_same]
        rw [isTy_lst gl2, isTy_dct Bb.b]
        refine ⟨trivial, trivial, fun p2 hp2 => ?_⟩
        have Bc := Bb.alloc (o := .lst []) hp2
        have n1 : pl ≠ p2 := fun z => by rw [← z, gl2] at hp2; cases hp2
        have n2 : pf ≠ p2 := fun z => by rw [← z, gf2] at hp2; cases hp2
        rw [rGet_dct Bc.b]
        refine ⟨key_ok (some s), ?_⟩
        obtain ⟨q2, e3, e4⟩ := Bb.get hp2 (some s)
        have e3 : (dgetE (keyD (encS s)) (List.map (fun x => (encO x.1, D.ref x.2)) prs')).getD (D.ref p2) = .ref q2 := e3
        rw [e3, rSorted_lst e4, sortS_kids hW]
        intro p3 hp3
        have Bd := Bc.alloc (o := .lst (List.map encS (kids L (some s)))) hp3
        have n3 : pl ≠ p3 := fun z => by rw [← z, gup_ne n1, gl2] at hp3; cases hp3
        have n4 : pf ≠ p3 := fun z => by rw [← z, gup_ne n2, gf2] at hp3; cases hp3
        have gl3 : gup (gup G2 p2 (.lst [])) p3 (.lst (List.map encS (kids L (some s)))) pl = some (.lst (List.map encS S')) := by rw [gup_ne n3, gup_ne n1, gl2]
        rw [rExtend_lst gl3 gup_same]
        have hkl := kids_len L (some s)
        have hSl : S'.length ≤ L.length := by
          have := PreL.len hpS
          rw [List.length_reverse] at this
          rw [List.length_cons, List.length_append] at hFL
          omega
        refine ⟨by rw [List.length_map, List.length_map]; omega, ?_⟩
        refine hF2 _ _ ⟨F ++ [s], S' ++ kids L (some s), la ++ ra, _, _, ?_, PreL.kids hp1 hpS, ?_, ?_, ?_, ⟨prs', Bd.other b4 b2, b1, b2⟩, b3, b4, rfl⟩
        · rw [← hFl]; simp
        · rw [List.length_cons] at hm; omega
        · rw [gup_ne nl, gup_ne n4, gup_ne n2, gf2]; simp
        · rw [gup_same, List.map_append]
    · rintro δ G' ⟨F, S, l, n, r5, hFl, hP, hm, _⟩
      omega
    · refine ⟨[], kids L none, ordI L, L.length, none, rfl, ?_, rfl, ?_, gup_same, ⟨prs, B3, fun x hx z => ?_, fun x hx z => ?_⟩, fun z => ?_, fun z => ?_, rfl⟩
      · cases pre_ordI hW with
        | mk h => exact h
      · rw [gup_ne nl, gup_ne nf, gup_same]; rfl
      · have := B.val x hx
        rw [z, hpf] at this
        cases this
      · have := B2.val x hx
        rw [z, hpl] at this
        cases this
      · have := B.b
        rw [← z, hpf] at this
        cases this
      · have := B2.b
        rw [← z, hpl] at this
        cases this
theorem good_order {P : Program} {w : World} {K : PySem.W.Frag} {mg : Str → Option Value} {base : Heap} (D0 : DefAt K mg "order" (top 2)) (g_sorted : mg "sorted" = none) (g_tuple : mg "tuple" = none) : Good P w K mg base "order" ps_order 1 sp_order :=
  goodP D0 sc_order t_order bind_order len_order (fun f cdv A outer s H E hr => der_order g_sorted g_tuple f cdv A outer s H E hr) pure_order
end K

namespace K
open PySem PySem.Spec PyProof.Rows L2 DD M
/-! ### _law_order -/
/-! ### _law_same -/
def Sm : Nat → D → Prop
  | 0, _ => False
  | n + 1, d => match d with
    | .non => True
    | .bl _ => True
    | .int _ => True
    | .str _ => True
    | .tup ds => ∀ x ∈ ds, Sm n x
    | _ => False
end K

namespace K
open PySem PySem.Spec PyProof.Rows L2 DD M
theorem cell_use {xs : List Int} {k : Nat} {G : DG} {Q : DK} {RE : DX} (h : ∀ i : Int, Q (.int i) G) : sp__law_cell [.scr (xs.map .int), .int (k : Int)] G Q RE :=
  ⟨⟨xs, k, rfl⟩, fun d ⟨i, e⟩ => by subst e; exact h i⟩
theorem deeds_use {c : Int} {m : Nat} {G : DG} {Q : DK} {RE : DX} (hm : m ≤ 1000) (h : ∀ L, Wf L → L.length = m → Nm (2 * m) L → Q (.tup (L.map M.encD)) G) : sp__law_deeds [.int c, .int (m : Int)] G Q RE :=
  ⟨⟨c, m, rfl, hm⟩, fun d ⟨L, e, hW, h2⟩ => by subst e; exact h L hW (h2 c m rfl).1 (h2 c m rfl).2⟩
theorem order_use {L : List Deed} {G : DG} {Q : DK} {RE : DX} (hW : Wf L) (hL : L.length ≤ 1000) (q : Q (.tup ((ordI L).map encS)) G) : sp_order [.tup (L.map M.encD)] G Q RE := ⟨_, ⟨L, rfl, hW, hL, rfl⟩, q⟩
theorem shown_use {L : List Deed} {g : Stp} {G : DG} {Q : DK} {RE : DX} (hW : Wf L) (hL : L.length ≤ 1000) (q : Q (.bl (M.shown L g)) G) : sp_is_shown [.tup (L.map M.encD), encS g] G Q RE := ⟨_, ⟨L, g, ⟨rfl, hW, hL⟩, rfl⟩, q⟩
/-! ### shown -/
def PreL1 (ds : List D) (L : List Deed) : Prop := ds = [D.tup (L.map M.encD)] ∧ Wf L ∧ L.length ≤ 1000
def rel_shown (ds : List D) (o : O) : Prop := ∃ L, PreL1 ds L ∧ o = .lst (((ordI L).filter (M.shown L)).map encS)
def sp_shown : DSp := spN rel_shown
abbrev N_shown : List Str := ["deeds", "touched", "deed", "stamp"]
abbrev ps_shown : List Str := ["deeds"]
def t_shown : DTS :=
  (dSeq (dSet 1 dDct0) (dSeq (dFor (dSeqX (dVar 0)) (dgName 2) (dIfS (dTB (dOp rIn (dOp rIx (dVar 2) (dC (.int 0))) (dTup (dCons (dC (.str "cut")) (dCons (dC (.str "off")) (dCons (dC (.str "on")) dNil)))))) (dPut rPut (dVar 1) (dOp rIx (dVar 2) (dC (.int 2))) (dC (.bl true))) dNext)) (dRet (dLc (dSeqX (dCall sp_order ex0 (dCons (dVar 0) dNil))) (dgName 3) (dOrT (dTB (dOp rNotIn (dVar 3) (dVar 1))) (dTru (dCall sp_is_shown ex0 (dCons (dVar 0) (dCons (dVar 3) dNil))))) (dVar 3) [3]))))
theorem sc_shown : FnScope N_shown ps_shown (defScope (top 5)) := ⟨rfl, rfl, rfl, by decide +kernel, rfl, by decide +kernel, by decide +kernel⟩
theorem der_shown {P : Program} {w : World} {K : PySem.W.Frag} {mg : Str → Option Value} {base : Heap} (G_is_shown : Good P w K mg base "is_shown" ps_is_shown 2 sp_is_shown) (G_order : Good P w K mg base "order" ps_order 1 sp_order) (f : Addr) (cdv : Value) (A : Around) (outer : List Env) (s : Shared) (H : Hp) (E : XK)
    (hr : Room 2 (A.deeper (envOfC "shown" (defScope (top 5)) s.heap.objs.size f cdv))) :
    DSs (cxOf CX0 P w K mg base N_shown "shown" (defScope (top 5)) f cdv A outer s H E).nox (Rg.top K w) (defBody (top 5)) t_shown := by
  have S := sc_shown
  exact (dss_cons (ds_set (i := 1) S.nd rfl (by first | exact Or.inl rfl | exact Or.inr rfl) de_dct0)
    (dss_cons (ds_for (vs := [2]) PassesOwn.never rfl (di_seq (de_var (pv 0))) (dg_name (pg_name (i := 2) S.nd rfl (by first | exact Or.inl rfl | exact Or.inr rfl)) (by decide) (by decide)) (dss_one (ds_if (dt_cmp (op_inD hr.units) (de_ix (ix_D hr.units) (de_var (pv 2)) de_int) (de_tup (da_cons de_str (da_cons de_str (da_cons de_str da_nil)))) (by rfl)) (dss_one (ds_put (de_var (pv 1)) (de_ix (ix_D hr.units) (de_var (pv 2)) de_int) de_bl (set_D hr.units))) dss_nil)))
    (dss_one (ds_ret (de_lc (own := [("stamp", 3)]) rfl S.nd (di_seq (de_callG G_order hr rfl (da_cons (de_var (pv 0)) da_nil))) (show BlkOk N_shown (defScope (top 5)) _ _ from ⟨rfl, by decide +kernel, by decide +kernel, by decide +kernel, by decide +kernel⟩) (fun _ _ _ _ _ => (dg_name (pg_name (i := 3) S.nd rfl (by first | exact Or.inl rfl | exact Or.inr rfl)) (by decide) (by decide))) (fun _ _ _ _ _ => (dts_one (dt_w (dw_or (dt_cmp (op_notInD hr.units) (de_var (pv 3)) (de_var (pv 1)) (by rfl)) (dw_or1 (dt_truth (de_callG G_is_shown hr rfl (da_cons (de_var (pv 0)) (da_cons (de_var (pv 3)) da_nil))))))))) (fun _ _ _ _ _ => (de_var (pv 3))))))))
theorem bind_shown (kV doc pm : Value) (an : Option Addr) (cdv ct : Value) (us : List Value) (hl : us.length = ps_shown.length) : bindArgs (PySem.W.fnOf "shown" "shown" (defArgs (top 5)) (defBody (top 5)) (defScope (top 5)) .none kV doc pm an cdv ct) ⟨us, []⟩ = pure (ps_shown.zip us) := match us, hl with | [_], _ => rfl
theorem len_shown : ∀ ds o, rel_shown ds o → ds.length = ps_shown.length := by
  rintro ds o ⟨L, ⟨rfl, _⟩, _⟩; rfl
theorem word_co (d : Deed) : (Str.ofString "cut" == d.word || (Str.ofString "off" == d.word || Str.ofString "on" == d.word)) = (match d with | .cut _ _ => true | .sw _ _ _ => true | _ => false) := by
  cases d with
  | sw on s g =>
    cases on
    · exact (by decide +kernel : (Str.ofString "cut" == Str.ofString "off" || (Str.ofString "off" == Str.ofString "off" || Str.ofString "on" == Str.ofString "off")) = true)
    · exact (by decide +kernel : (Str.ofString "cut" == Str.ofString "on" || (Str.ofString "off" == Str.ofString "on" || Str.ofString "on" == Str.ofString "on")) = true)
  | write s a c => exact (by decide +kernel : (Str.ofString "cut" == Str.ofString "write" || (Str.ofString "off" == Str.ofString "write" || Str.ofString "on" == Str.ofString "write")) = false)
  | cut s g => exact (by decide +kernel : (Str.ofString "cut" == Str.ofString "cut" || (Str.ofString "off" == Str.ofString "cut" || Str.ofString "on" == Str.ofString "cut")) = true)
  | mark s b f e v => exact (by decide +kernel : (Str.ofString "cut" == Str.ofString "mark" || (Str.ofString "off" == Str.ofString "mark" || Str.ofString "on" == Str.ofString "mark")) = false)
theorem pure_shown : ∀ ds o, rel_shown ds o → t_shown { nx := fun _ _ => False, rt := fun d G' => ∃ p, d = .ref p ∧ G' p = some o } (dstart N_shown ds) g0 := by
  rintro ds o ⟨L, ⟨rfl, hW, hL⟩, rfl⟩
  simp only [t_shown, N_shown, set_app, drop_app, ret_app, asg_app, par_app, par3_app, put_app, next_app, cont_app, break_app, seq_set, seq_drop, seq_ret, seq_asg, seq_par, seq_par3, seq_put, seq_next, dOp, dUn, dVar, dC, dTup, dLst, dNil, dCons, dCall, dCB, dBM, isTy_str, dTB, dAndT, dOrT, dNotT, dAnd, dOr, dNot, dIf, dTru, truth, dChain, dSl, dPart, dNoPart,  dLc,  dRng1, dRng2,  dEnumT, dgName, dgTup, dgCons, dgNil, dDct0, dYes, dwipe, dstart, rAdd_int, rAdd_str, rAdd_tup, rSub_int, rMul_int, rMod_int, rFdiv_int, rNeg_int, rIs_non, rIsNot_non, rIs_bl, DD.isNonD,  rIx_str, rIx_tup, rIx_scr, rLen_str, rLen_tup, rLen_scr, rTuple_tup, rList_tup, rIn_s1, rIn_s2, rIn_s3, rMax2_int, rMin2_int, rInt1_int, rSl_str, rSl_tup, rev_app, revK_tup, seqX_app, seqK_tup, seqK_str, zip_app, zipK_tup, rLt_int, rLe_int, rGt_int, rGe_int, rLt_str, rLe_str, rGt_str, rGe_str, rOrd_encS, DD.rEq_int, DD.rEq_str, DD.rEq_bl, DD.rNe_int, DD.rNe_str, rEq_encS, rEq_encO, rEq_OS, atI_0, atI_1, atI_2, atI_3, atI_4, atI_5, atI_snoc, ob_some, gup_same, List.map_cons, List.map_nil, List.length_cons, List.length_nil, List.cons_append, List.nil_append, List.getElem?_cons_zero, List.getElem?_cons_succ, List.set_cons_zero, List.set_cons_succ, List.replicate_zero, List.replicate_succ, Nat.reduceSub, Nat.reduceAdd, if_true, if_false, Bool.false_eq_true, Bool.not_true, Bool.not_false, true_and, and_true]
  intro p hp
  rw [seq_for]
  simp only [set_app, drop_app, ret_app, asg_app, par_app, par3_app, put_app, next_app, cont_app, break_app, seq_set, seq_drop, seq_ret, seq_asg, seq_par, seq_par3, seq_put, seq_next, dOp, dUn, dVar, dC, dTup, dLst, dNil, dCons, dCall, dCB, dBM, isTy_str, dTB, dAndT, dOrT, dNotT, dAnd, dOr, dNot, dIf, dTru, truth, dChain, dSl, dPart, dNoPart,  dLc,  dRng1, dRng2,  dEnumT, dgName, dgTup, dgCons, dgNil, dDct0, dYes, dwipe, dstart, rAdd_int, rAdd_str, rAdd_tup, rSub_int, rMul_int, rMod_int, rFdiv_int, rNeg_int, rIs_non, rIsNot_non, rIs_bl, DD.isNonD,  rIx_str, rIx_tup, rIx_scr, rLen_str, rLen_tup, rLen_scr, rTuple_tup, rList_tup, rIn_s1, rIn_s2, rIn_s3, rMax2_int, rMin2_int, rInt1_int, rSl_str, rSl_tup, rev_app, revK_tup, seqX_app, seqK_tup, seqK_str, zip_app, zipK_tup, rLt_int, rLe_int, rGt_int, rGe_int, rLt_str, rLe_str, rGt_str, rGe_str, rOrd_encS, DD.rEq_int, DD.rEq_str, DD.rEq_bl, DD.rNe_int, DD.rNe_str, rEq_encS, rEq_encO, rEq_OS, atI_0, atI_1, atI_2, atI_3, atI_4, atI_5, atI_snoc, ob_some, gup_same, List.map_cons, List.map_nil, List.length_cons, List.length_nil, List.cons_append, List.nil_append, List.getElem?_cons_zero, List.getElem?_cons_succ, List.set_cons_zero, List.set_cons_succ, List.replicate_zero, List.replicate_succ, Nat.reduceSub, Nat.reduceAdd, if_true, if_false, Bool.false_eq_true, Bool.not_true, Bool.not_false, true_and, and_true]
  refine forL_ind (fun i δ G => ∃ es r2, es.length ≤ i ∧ FD es (fun s => if tch (L.take i) s = true then some (.bl true) else none) ∧ G p = some (.dct es) ∧ δ = [some (D.tup (List.map M.encD L)), some (.ref p), r2, none]) ?_ ?_ _ _ ⟨[], none, Nat.le_refl _, fun _ => rfl, gup_same, rfl⟩
  · rintro i d F hd hF δ G ⟨es, r2, hl, hf, hG, rfl⟩
    obtain ⟨e, he, rfl, hm⟩ := map_get hd
    refine ⟨trivial, ?_⟩
    simp only [set_app, drop_app, ret_app, asg_app, par_app, par3_app, put_app, next_app, cont_app, break_app, seq_set, seq_drop, seq_ret, seq_asg, seq_par, seq_par3, seq_put, seq_next, dOp, dUn, dVar, dC, dTup, dLst, dNil, dCons, dCall, dCB, dBM, isTy_str, dTB, dAndT, dOrT, dNotT, dAnd, dOr, dNot, dIf, dTru, truth, dChain, dSl, dPart, dNoPart,  dLc,  dRng1, dRng2,  dEnumT, dgName, dgTup, dgCons, dgNil, dDct0, dYes, dwipe, dstart, rAdd_int, rAdd_str, rAdd_tup, rSub_int, rMul_int, rMod_int, rFdiv_int, rNeg_int, rIs_non, rIsNot_non, rIs_bl, DD.isNonD,  rIx_str, rIx_tup, rIx_scr, rLen_str, rLen_tup, rLen_scr, rTuple_tup, rList_tup, rIn_s1, rIn_s2, rIn_s3, rMax2_int, rMin2_int, rInt1_int, rSl_str, rSl_tup, rev_app, revK_tup, seqX_app, seqK_tup, seqK_str, zip_app, zipK_tup, rLt_int, rLe_int, rGt_int, rGe_int, rLt_str, rLe_str, rGt_str, rGe_str, rOrd_encS, DD.rEq_int, DD.rEq_str, DD.rEq_bl, DD.rNe_int, DD.rNe_str, rEq_encS, rEq_encO, rEq_OS, atI_0, atI_1, atI_2, atI_3, atI_4, atI_5, atI_snoc, ob_some, gup_same, List.map_cons, List.map_nil, List.length_cons, List.length_nil, List.cons_append, List.nil_append, List.getElem?_cons_zero, List.getElem?_cons_succ, List.set_cons_zero, List.set_cons_succ, List.replicate_zero, List.replicate_succ, Nat.reduceSub, Nat.reduceAdd, if_true, if_false, Bool.false_eq_true, Bool.not_true, Bool.not_false, true_and, and_true]
    rw [if_app]
    simp only [set_app, drop_app, ret_app, asg_app, par_app, par3_app, put_app, next_app, cont_app, break_app, seq_set, seq_drop, seq_ret, seq_asg, seq_par, seq_par3, seq_put, seq_next, dOp, dUn, dVar, dC, dTup, dLst, dNil, dCons, dCall, dCB, dBM, isTy_str, dTB, dAndT, dOrT, dNotT, dAnd, dOr, dNot, dIf, dTru, truth, dChain, dSl, dPart, dNoPart,  dLc,  dRng1, dRng2,  dEnumT, dgName, dgTup, dgCons, dgNil, dDct0, dYes, dwipe, dstart, rAdd_int, rAdd_str, rAdd_tup, rSub_int, rMul_int, rMod_int, rFdiv_int, rNeg_int, rIs_non, rIsNot_non, rIs_bl, DD.isNonD,  rIx_str, rIx_tup, rIx_scr, rLen_str, rLen_tup, rLen_scr, rTuple_tup, rList_tup, rIn_s1, rIn_s2, rIn_s3, rMax2_int, rMin2_int, rInt1_int, rSl_str, rSl_tup, rev_app, revK_tup, seqX_app, seqK_tup, seqK_str, zip_app, zipK_tup, rLt_int, rLe_int, rGt_int, rGe_int, rLt_str, rLe_str, rGt_str, rGe_str, rOrd_encS, DD.rEq_int, DD.rEq_str, DD.rEq_bl, DD.rNe_int, DD.rNe_str, rEq_encS, rEq_encO, rEq_OS, atI_0, atI_1, atI_2, atI_3, atI_4, atI_5, atI_snoc, ob_some, gup_same, List.map_cons, List.map_nil, List.length_cons, List.length_nil, List.cons_append, List.nil_append, List.getElem?_cons_zero, List.getElem?_cons_succ, List.set_cons_zero, List.set_cons_succ, List.replicate_zero, List.replicate_succ, Nat.reduceSub, Nat.reduceAdd, if_true, if_false, Bool.false_eq_true, Bool.not_true, Bool.not_false, true_and, and_true]
    obtain ⟨q, eq, q1, q0⟩ := atI_at1 (d := e)
    rw [eq, rIx_tup, q0, ob_some, rIn_s3, word_co, ← eq]
    have eT := take_snoc he
    have hi : i < 1000 := by
      have := (List.getElem?_eq_some_iff.mp he).1
      omega
    have go : ∀ g : Stp, (∀ s, tchOf s e = decide (g = s)) → F [some (D.tup (List.map M.encD L)), some (.ref p), some (M.encD e), none] (gup G p (.dct (dputE (encS g) (.bl true) es))) := by
      intro g hg
      refine hF _ _ ⟨_, _, by have := len_put (k := encS g) (v := .bl true) (es := es); omega, (hf.put g (.bl true)).eq fun s => ?_, gup_same, rfl⟩
      rw [eT, tch_snoc, hg]
      by_cases z : g = s
      · simp [z]
      · simp [z]
    have no : (∀ s, tchOf s e = false) → F [some (D.tup (List.map M.encD L)), some (.ref p), some (M.encD e), none] G := by
      intro h
      refine hF _ _ ⟨es, _, by omega, hf.eq fun s => ?_, hG, rfl⟩
      rw [eT, tch_snoc, h, Bool.or_false]
    cases e with
    | cut s g =>
      simp only [if_true]
      rw [encD_cut, rIx_tup, atI_2, ob_some, rPut_dct hG]
      exact ⟨⟨keyS_ok g, by omega⟩, go g fun s => rfl⟩
    | sw on s g =>
      simp only [if_true]
      rw [encD_sw, rIx_tup, atI_2, ob_some, rPut_dct hG]
      exact ⟨⟨keyS_ok g, by omega⟩, go g fun s => rfl⟩
    | _ =>
      simp only [Bool.false_eq_true, if_false]
      exact no fun _ => rfl
  · rintro δ G ⟨es, r2, hl, hf, hG, rfl⟩
    rw [List.length_map, List.take_length] at hf
    refine ⟨trivial, ?_⟩
    simp only [set_app, drop_app, ret_app, asg_app, par_app, par3_app, put_app, next_app, cont_app, break_app, seq_set, seq_drop, seq_ret, seq_asg, seq_par, seq_par3, seq_put, seq_next, dOp, dUn, dVar, dC, dTup, dLst, dNil, dCons, dCall, dCB, dBM, isTy_str, dTB, dAndT, dOrT, dNotT, dAnd, dOr, dNot, dIf, dTru, truth, dChain, dSl, dPart, dNoPart,  dLc,  dRng1, dRng2,  dEnumT, dgName, dgTup, dgCons, dgNil, dDct0, dYes, dwipe, dstart, rAdd_int, rAdd_str, rAdd_tup, rSub_int, rMul_int, rMod_int, rFdiv_int, rNeg_int, rIs_non, rIsNot_non, rIs_bl, DD.isNonD,  rIx_str, rIx_tup, rIx_scr, rLen_str, rLen_tup, rLen_scr, rTuple_tup, rList_tup, rIn_s1, rIn_s2, rIn_s3, rMax2_int, rMin2_int, rInt1_int, rSl_str, rSl_tup, rev_app, revK_tup, seqX_app, seqK_tup, seqK_str, zip_app, zipK_tup, rLt_int, rLe_int, rGt_int, rGe_int, rLt_str, rLe_str, rGt_str, rGe_str, rOrd_encS, DD.rEq_int, DD.rEq_str, DD.rEq_bl, DD.rNe_int, DD.rNe_str, rEq_encS, rEq_encO, rEq_OS, atI_0, atI_1, atI_2, atI_3, atI_4, atI_5, atI_snoc, ob_some, gup_same, List.map_cons, List.map_nil, List.length_cons, List.length_nil, List.cons_append, List.nil_append, List.getElem?_cons_zero, List.getElem?_cons_succ, List.set_cons_zero, List.set_cons_succ, List.replicate_zero, List.replicate_succ, Nat.reduceSub, Nat.reduceAdd, if_true, if_false, Bool.false_eq_true, Bool.not_true, Bool.not_false, true_and, and_true]
    refine order_use hW hL ?_
    rw [seqK_tup]
    refine lcL_ind (fun i acc G => acc = (((ordI L).take i).filter (M.shown L)).map encS ∧ G p = some (.dct es)) ?_ ?_ _ _ ⟨by simp, hG⟩
    · rintro i d F hd hF acc G ⟨rfl, hG⟩
      obtain ⟨s, hs, rfl, hm⟩ := map_get hd
      refine ⟨trivial, ?_⟩
      simp only [set_app, drop_app, ret_app, asg_app, par_app, par3_app, put_app, next_app, cont_app, break_app, seq_set, seq_drop, seq_ret, seq_asg, seq_par, seq_par3, seq_put, seq_next, dOp, dUn, dVar, dC, dTup, dLst, dNil, dCons, dCall, dCB, dBM, isTy_str, dTB, dAndT, dOrT, dNotT, dAnd, dOr, dNot, dIf, dTru, truth, dChain, dSl, dPart, dNoPart,  dLc,  dRng1, dRng2,  dEnumT, dgName, dgTup, dgCons, dgNil, dDct0, dYes, dwipe, dstart, rAdd_int, rAdd_str, rAdd_tup, rSub_int, rMul_int, rMod_int, rFdiv_int, rNeg_int, rIs_non, rIsNot_non, rIs_bl, DD.isNonD,  rIx_str, rIx_tup, rIx_scr, rLen_str, rLen_tup, rLen_scr, rTuple_tup, rList_tup, rIn_s1, rIn_s2, rIn_s3, rMax2_int, rMin2_int, rInt1_int, rSl_str, rSl_tup, rev_app, revK_tup, seqX_app, seqK_tup, seqK_str, zip_app, zipK_tup, rLt_int, rLe_int, rGt_int, rGe_int, rLt_str, rLe_str, rGt_str, rGe_str, rOrd_encS, DD.rEq_int, DD.rEq_str, DD.rEq_bl, DD.rNe_int, DD.rNe_str, rEq_encS, rEq_encO, rEq_OS, atI_0, atI_1, atI_2, atI_3, atI_4, atI_5, atI_snoc, ob_some, gup_same, List.map_cons, List.map_nil, List.length_cons, List.length_nil, List.cons_append, List.nil_append, List.getElem?_cons_zero, List.getElem?_cons_succ, List.set_cons_zero, List.set_cons_succ, List.replicate_zero, List.replicate_succ, Nat.reduceSub, Nat.reduceAdd, if_true, if_false, Bool.false_eq_true, Bool.not_true, Bool.not_false, true_and, and_true]
      rw [rNotIn_dct hG, hf s]
      refine ⟨keyS_ok s, ?_⟩
      have eT := take_snoc hs
      have yes : M.shown L s = true → F ((((ordI L).take i).filter (M.shown L)).map encS ++ [encS s]) G := by
        intro h
        refine hF _ _ ⟨?_, hG⟩
        rw [eT, List.filter_append, List.map_append]
        simp [h]
      by_cases ht : tch L s = true
      · simp only [ht, if_true, Option.isSome_some, Bool.not_true, Bool.false_eq_true, if_false]
        refine shown_use hW hL ?_
        simp only [set_app, drop_app, ret_app, asg_app, par_app, par3_app, put_app, next_app, cont_app, break_app, seq_set, seq_drop, seq_ret, seq_asg, seq_par, seq_par3, seq_put, seq_next, dOp, dUn, dVar, dC, dTup, dLst, dNil, dCons, dCall, dCB, dBM, isTy_str, dTB, dAndT, dOrT, dNotT, dAnd, dOr, dNot, dIf, dTru, truth, dChain, dSl, dPart, dNoPart,  dLc,  dRng1, dRng2,  dEnumT, dgName, dgTup, dgCons, dgNil, dDct0, dYes, dwipe, dstart, rAdd_int, rAdd_str, rAdd_tup, rSub_int, rMul_int, rMod_int, rFdiv_int, rNeg_int, rIs_non, rIsNot_non, rIs_bl, DD.isNonD,  rIx_str, rIx_tup, rIx_scr, rLen_str, rLen_tup, rLen_scr, rTuple_tup, rList_tup, rIn_s1, rIn_s2, rIn_s3, rMax2_int, rMin2_int, rInt1_int, rSl_str, rSl_tup, rev_app, revK_tup, seqX_app, seqK_tup, seqK_str, zip_app, zipK_tup, rLt_int, rLe_int, rGt_int, rGe_int, rLt_str, rLe_str, rGt_str, rGe_str, rOrd_encS, DD.rEq_int, DD.rEq_str, DD.rEq_bl, DD.rNe_int, DD.rNe_str, rEq_encS, rEq_encO, rEq_OS, atI_0, atI_1, atI_2, atI_3, atI_4, atI_5, atI_snoc, ob_some, gup_same, List.map_cons, List.map_nil, List.length_cons, List.length_nil, List.cons_append, List.nil_append, List.getElem?_cons_zero, List.getElem?_cons_succ, List.set_cons_zero, List.set_cons_succ, List.replicate_zero, List.replicate_succ, Nat.reduceSub, Nat.reduceAdd, if_true, if_false, Bool.false_eq_true, Bool.not_true, Bool.not_false, true_and, and_true]
        by_cases h : M.shown L s = true
        · simp only [h, if_true]
          exact yes h
        · simp only [h, if_false]
          refine hF _ _ ⟨?_, hG⟩
          rw [eT, List.filter_append, List.map_append]
          simp [h]
      · simp only [ht, if_false, Option.isSome_none, Bool.not_false, if_true]
        exact yes (tch_no (by simpa using ht))
    · rintro acc G ⟨rfl, hG⟩
      refine ⟨trivial, fun p2 hp2 => ⟨p2, rfl, ?_⟩⟩
      rw [gup_same, List.length_map, List.take_length]
theorem good_shown {P : Program} {w : World} {K : PySem.W.Frag} {mg : Str → Option Value} {base : Heap} (D0 : DefAt K mg "shown" (top 5)) (G_is_shown : Good P w K mg base "is_shown" ps_is_shown 2 sp_is_shown) (G_order : Good P w K mg base "order" ps_order 1 sp_order) : Good P w K mg base "shown" ps_shown 3 sp_shown :=
  goodN D0 sc_shown t_shown bind_shown len_shown (fun f cdv A outer s H E hr => der_shown G_is_shown G_order f cdv A outer s H E hr) pure_shown
/-! ### letters_of -/
def rel_letters_of (ds : List D) (o : O) : Prop := ∃ L, PreL1 ds L ∧ o = .dct (dictS (wrs L))
def sp_letters_of : DSp := spN rel_letters_of
abbrev N_letters_of : List Str := ["deeds", "deed"]
abbrev ps_letters_of : List Str := ["deeds"]
def t_letters_of : DTS :=
  (dRet (dCB rDict (dCons (dLc (dSeqX (dVar 0)) (dgName 1) (dTB (dOp rEq (dOp rIx (dVar 1) (dC (.int 0))) (dC (.str "write")))) (dTup (dCons (dOp rIx (dVar 1) (dC (.int 1))) (dCons (dOp rIx (dVar 1) (dC (.int 3))) dNil))) [1]) dNil)))
theorem sc_letters_of : FnScope N_letters_of ps_letters_of (defScope (top 8)) := ⟨rfl, rfl, rfl, by decide +kernel, rfl, by decide +kernel, by decide +kernel⟩
theorem der_letters_of {P : Program} {w : World} {K : PySem.W.Frag} {mg : Str → Option Value} {base : Heap} (g_dict : mg "dict" = none) (f : Addr) (cdv : Value) (A : Around) (outer : List Env) (s : Shared) (H : Hp) (E : XK)
    (hr : Room 0 (A.deeper (envOfC "letters_of" (defScope (top 8)) s.heap.objs.size f cdv))) :
    DSs (cxOf CX0 P w K mg base N_letters_of "letters_of" (defScope (top 8)) f cdv A outer s H E).nox (Rg.top K w) (defBody (top 8)) t_letters_of := by
  have S := sc_letters_of
  exact (dss_one (ds_ret (de_callTy (call_dictD rfl hr.units) rfl g_dict rfl (da_cons (de_lc (own := [("deed", 1)]) rfl S.nd (di_seq (de_var (pv 0))) (show BlkOk N_letters_of (defScope (top 8)) _ _ from ⟨rfl, by decide +kernel, by decide +kernel, by decide +kernel, by decide +kernel⟩) (fun _ _ _ _ _ => (dg_name (pg_name (i := 1) S.nd rfl (by first | exact Or.inl rfl | exact Or.inr rfl)) (by decide) (by decide))) (fun _ _ _ _ _ => (dts_one (dt_cmp (op_eqD hr.units) (de_ix (ix_D hr.units) (de_var (pv 1)) de_int) de_str (by rfl)))) (fun _ _ _ _ _ => (de_tup (da_cons (de_ix (ix_D hr.units) (de_var (pv 1)) de_int) (da_cons (de_ix (ix_D hr.units) (de_var (pv 1)) de_int) da_nil))))) da_nil))))
theorem bind_letters_of (kV doc pm : Value) (an : Option Addr) (cdv ct : Value) (us : List Value) (hl : us.length = ps_letters_of.length) : bindArgs (PySem.W.fnOf "letters_of" "letters_of" (defArgs (top 8)) (defBody (top 8)) (defScope (top 8)) .none kV doc pm an cdv ct) ⟨us, []⟩ = pure (ps_letters_of.zip us) := match us, hl with | [_], _ => rfl
theorem len_letters_of : ∀ ds o, rel_letters_of ds o → ds.length = ps_letters_of.length := by
  rintro ds o ⟨L, ⟨rfl, _⟩, _⟩; rfl
theorem pure_letters_of : ∀ ds o, rel_letters_of ds o → t_letters_of { nx := fun _ _ => False, rt := fun d G' => ∃ p, d = .ref p ∧ G' p = some o } (dstart N_letters_of ds) g0 := by
  rintro ds o ⟨L, ⟨rfl, hW, hL⟩, rfl⟩
  simp only [t_letters_of, N_letters_of, set_app, drop_app, ret_app, asg_app, par_app, par3_app, put_app, next_app, cont_app, break_app, seq_set, seq_drop, seq_ret, seq_asg, seq_par, seq_par3, seq_put, seq_next, dOp, dUn, dVar, dC, dTup, dLst, dNil, dCons, dCall, dCB, dBM, isTy_str, dTB, dAndT, dOrT, dNotT, dAnd, dOr, dNot, dIf, dTru, truth, dChain, dSl, dPart, dNoPart,  dLc,  dRng1, dRng2,  dEnumT, dgName, dgTup, dgCons, dgNil, dDct0, dYes, dwipe, dstart, rAdd_int, rAdd_str, rAdd_tup, rSub_int, rMul_int, rMod_int, rFdiv_int, rNeg_int, rIs_non, rIsNot_non, rIs_bl, DD.isNonD,  rIx_str, rIx_tup, rIx_scr, rLen_str, rLen_tup, rLen_scr, rTuple_tup, rList_tup, rIn_s1, rIn_s2, rIn_s3, rMax2_int, rMin2_int, rInt1_int, rSl_str, rSl_tup, rev_app, revK_tup, seqX_app, seqK_tup, seqK_str, zip_app, zipK_tup, rLt_int, rLe_int, rGt_int, rGe_int, rLt_str, rLe_str, rGt_str, rGe_str, rOrd_encS, DD.rEq_int, DD.rEq_str, DD.rEq_bl, DD.rNe_int, DD.rNe_str, rEq_encS, rEq_encO, rEq_OS, atI_0, atI_1, atI_2, atI_3, atI_4, atI_5, atI_snoc, ob_some, gup_same, List.map_cons, List.map_nil, List.length_cons, List.length_nil, List.cons_append, List.nil_append, List.getElem?_cons_zero, List.getElem?_cons_succ, List.set_cons_zero, List.set_cons_succ, List.replicate_zero, List.replicate_succ, Nat.reduceSub, Nat.reduceAdd, if_true, if_false, Bool.false_eq_true, Bool.not_true, Bool.not_false, true_and, and_true]
  refine lcL_ind (fun i acc G => acc = (wrs (L.take i)).map fun x => .tup [encS x.1, x.2]) ?_ ?_ _ _ rfl
  · rintro i d F hd hF acc G rfl
    obtain ⟨e, he, rfl, hm⟩ := map_get hd
    refine ⟨trivial, ?_⟩
    simp only [set_app, drop_app, ret_app, asg_app, par_app, par3_app, put_app, next_app, cont_app, break_app, seq_set, seq_drop, seq_ret, seq_asg, seq_par, seq_par3, seq_put, seq_next, dOp, dUn, dVar, dC, dTup, dLst, dNil, dCons, dCall, dCB, dBM, isTy_str, dTB, dAndT, dOrT, dNotT, dAnd, dOr, dNot, dIf, dTru, truth, dChain, dSl, dPart, dNoPart,  dLc,  dRng1, dRng2,  dEnumT, dgName, dgTup, dgCons, dgNil, dDct0, dYes, dwipe, dstart, rAdd_int, rAdd_str, rAdd_tup, rSub_int, rMul_int, rMod_int, rFdiv_int, rNeg_int, rIs_non, rIsNot_non, rIs_bl, DD.isNonD,  rIx_str, rIx_tup, rIx_scr, rLen_str, rLen_tup, rLen_scr, rTuple_tup, rList_tup, rIn_s1, rIn_s2, rIn_s3, rMax2_int, rMin2_int, rInt1_int, rSl_str, rSl_tup, rev_app, revK_tup, seqX_app, seqK_tup, seqK_str, zip_app, zipK_tup, rLt_int, rLe_int, rGt_int, rGe_int, rLt_str, rLe_str, rGt_str, rGe_str, rOrd_encS, DD.rEq_int, DD.rEq_str, DD.rEq_bl, DD.rNe_int, DD.rNe_str, rEq_encS, rEq_encO, rEq_OS, atI_0, atI_1, atI_2, atI_3, atI_4, atI_5, atI_snoc, ob_some, gup_same, List.map_cons, List.map_nil, List.length_cons, List.length_nil, List.cons_append, List.nil_append, List.getElem?_cons_zero, List.getElem?_cons_succ, List.set_cons_zero, List.set_cons_succ, List.replicate_zero, List.replicate_succ, Nat.reduceSub, Nat.reduceAdd, if_true, if_false, Bool.false_eq_true, Bool.not_true, Bool.not_false, true_and, and_true]
    obtain ⟨q, eq, q1, q0⟩ := atI_at1 (d := e)
    rw [eq, rIx_tup, q0, ob_some, DD.rEq_str, word_write, ← eq]
    have eT := take_snoc he
    cases e with
    | write s a c =>
      simp only [if_true]
      rw [encD_write, rIx_tup, atI_1, ob_some, rIx_tup, atI_3, ob_some]
      refine hF _ _ ?_
      rw [eT, wrs_snoc, List.map_append]
      rfl
    | _ =>
      simp only [Bool.false_eq_true, if_false]
      refine hF _ _ ?_
      rw [eT, wrs_snoc]
      simp [wrOf]
  · rintro acc G rfl
    refine ⟨trivial, fun p hp => ?_⟩
    rw [List.length_map, List.take_length]
    rw [rDict_lst gup_same (pairsD_map _ _ _)]
    refine ⟨⟨fun x hx => ?_, by rw [List.length_map]; have := wrs_len L; omega⟩, fun p2 hp2 => ⟨p2, rfl, gup_same⟩⟩
    obtain ⟨y, _, rfl⟩ := List.mem_map.mp hx
    exact keyS_ok y.1
theorem good_letters_of {P : Program} {w : World} {K : PySem.W.Frag} {mg : Str → Option Value} {base : Heap} (D0 : DefAt K mg "letters_of" (top 8)) (g_dict : mg "dict" = none) : Good P w K mg base "letters_of" ps_letters_of 1 sp_letters_of :=
  goodN D0 sc_letters_of t_letters_of bind_letters_of len_letters_of (fun f cdv A outer s H E hr => der_letters_of g_dict f cdv A outer s H E hr) pure_letters_of
theorem letters_use {L : List Deed} {G : DG} {Q : DK} {RE : DX} (hW : Wf L) (hL : L.length ≤ 1000) (q : ∀ p, G p = none → Q (.ref p) (gup G p (.dct (dictS (wrs L))))) : sp_letters_of [.tup (L.map M.encD)] G Q RE := ⟨_, ⟨L, ⟨rfl, hW, hL⟩, rfl⟩, q⟩
theorem shownL_use {L : List Deed} {G : DG} {Q : DK} {RE : DX} (hW : Wf L) (hL : L.length ≤ 1000) (q : ∀ p, G p = none → Q (.ref p) (gup G p (.lst ((shownL L).map encS)))) : sp_shown [.tup (L.map M.encD)] G Q RE := ⟨_, ⟨L, ⟨rfl, hW, hL⟩, rfl⟩, q⟩
end K

namespace K
open PySem PySem.Spec PyProof.Rows L2 DD M
def cst_KINDS : D := .tup [.str "bold", .str "link"]
def tab_BARE : List (Str × D) := [("bold", .bl false), ("link", .non)]
/-! ### text -/
def rel_text (ds : List D) (d : D) : Prop := ∃ L, PreL1 ds L ∧ d = .str (textM L)
def sp_text : DSp := spP rel_text
abbrev N_text : List Str := ["deeds", "letters", "stamp"]
abbrev ps_text : List Str := ["deeds"]
def t_text : DTS :=
  (dSeq (dSet 1 (dCall sp_letters_of ex0 (dCons (dVar 0) dNil))) (dRet (dBM "str" rJoin (dC (.str "")) (dCons (dLc (dSeqX (dCall sp_shown ex0 (dCons (dVar 0) dNil))) (dgName 2) dYes (dOp rIx (dVar 1) (dVar 2)) [2]) dNil))))
theorem sc_text : FnScope N_text ps_text (defScope (top 9)) := ⟨rfl, rfl, rfl, by decide +kernel, rfl, by decide +kernel, by decide +kernel⟩
theorem der_text {P : Program} {w : World} {K : PySem.W.Frag} {mg : Str → Option Value} {base : Heap} (G_letters_of : Good P w K mg base "letters_of" ps_letters_of 1 sp_letters_of) (G_shown : Good P w K mg base "shown" ps_shown 3 sp_shown) (f : Addr) (cdv : Value) (A : Around) (outer : List Env) (s : Shared) (H : Hp) (E : XK)
    (hr : Room 3 (A.deeper (envOfC "text" (defScope (top 9)) s.heap.objs.size f cdv))) :
    DSs (cxOf CX0 P w K mg base N_text "text" (defScope (top 9)) f cdv A outer s H E).nox (Rg.top K w) (defBody (top 9)) t_text := by
  have S := sc_text
  exact (dss_cons (ds_set (i := 1) S.nd rfl (by first | exact Or.inl rfl | exact Or.inr rfl) (de_callG G_letters_of hr rfl (da_cons (de_var (pv 0)) da_nil)))
    (dss_one (ds_ret (de_bm F.plainAttrs_str F.slot_str_join F.type_str_join mt_joinD de_str (da_cons (de_lc (own := [("stamp", 2)]) rfl S.nd (di_seq (de_callG G_shown hr rfl (da_cons (de_var (pv 0)) da_nil))) (show BlkOk N_text (defScope (top 9)) _ _ from ⟨rfl, by decide +kernel, by decide +kernel, by decide +kernel, by decide +kernel⟩) (fun _ _ _ _ _ => (dg_name (pg_name (i := 2) S.nd rfl (by first | exact Or.inl rfl | exact Or.inr rfl)) (by decide) (by decide))) (fun _ _ _ _ _ => dts_nil) (fun _ _ _ _ _ => (de_ix (ix_D hr.units) (de_var (pv 1)) (de_var (pv 2))))) da_nil)))))
theorem bind_text (kV doc pm : Value) (an : Option Addr) (cdv ct : Value) (us : List Value) (hl : us.length = ps_text.length) : bindArgs (PySem.W.fnOf "text" "text" (defArgs (top 9)) (defBody (top 9)) (defScope (top 9)) .none kV doc pm an cdv ct) ⟨us, []⟩ = pure (ps_text.zip us) := match us, hl with | [_], _ => rfl
theorem len_text : ∀ ds d, rel_text ds d → ds.length = ps_text.length := by
  rintro ds d ⟨L, ⟨rfl, _⟩, _⟩; rfl
theorem pure_text : ∀ ds d, rel_text ds d → t_text { nx := fun _ _ => .non = d, rt := fun d' _ => d' = d } (dstart N_text ds) g0 := by
  rintro ds d ⟨L, ⟨rfl, hW, hL⟩, rfl⟩
  simp only [t_text, N_text, set_app, drop_app, ret_app, asg_app, par_app, par3_app, put_app, next_app, cont_app, break_app, seq_set, seq_drop, seq_ret, seq_asg, seq_par, seq_par3, seq_put, seq_next, dOp, dUn, dVar, dC, dTup, dLst, dNil, dCons, dCall, dCB, dBM, isTy_str, dTB, dAndT, dOrT, dNotT, dAnd, dOr, dNot, dIf, dTru, truth, dChain, dSl, dPart, dNoPart,  dLc,  dRng1, dRng2,  dEnumT, dgName, dgTup, dgCons, dgNil, dDct0, dYes, dwipe, dstart, rAdd_int, rAdd_str, rAdd_tup, rSub_int, rMul_int, rMod_int, rFdiv_int, rNeg_int, rIs_non, rIsNot_non, rIs_bl, DD.isNonD,  rIx_str, rIx_tup, rIx_scr, rLen_str, rLen_tup, rLen_scr, rTuple_tup, rList_tup, rIn_s1, rIn_s2, rIn_s3, rMax2_int, rMin2_int, rInt1_int, rSl_str, rSl_tup, rev_app, revK_tup, seqX_app, seqK_tup, seqK_str, zip_app, zipK_tup, rLt_int, rLe_int, rGt_int, rGe_int, rLt_str, rLe_str, rGt_str, rGe_str, rOrd_encS, DD.rEq_int, DD.rEq_str, DD.rEq_bl, DD.rNe_int, DD.rNe_str, rEq_encS, rEq_encO, rEq_OS, atI_0, atI_1, atI_2, atI_3, atI_4, atI_5, atI_snoc, ob_some, gup_same, List.map_cons, List.map_nil, List.length_cons, List.length_nil, List.cons_append, List.nil_append, List.getElem?_cons_zero, List.getElem?_cons_succ, List.set_cons_zero, List.set_cons_succ, List.replicate_zero, List.replicate_succ, Nat.reduceSub, Nat.reduceAdd, if_true, if_false, Bool.false_eq_true, Bool.not_true, Bool.not_false, true_and, and_true]
  refine letters_use hW hL fun p hp => ?_
  refine shownL_use hW hL fun p2 hp2 => ?_
  have hG : gup (gup g0 p (.dct (dictS (wrs L)))) p2 (.lst ((shownL L).map encS)) p = some (.dct (dictS (wrs L))) := by
    rw [gup_ne (fun z => by rw [← z, gup_same] at hp2; cases hp2), gup_same]
  rw [seqK_lst gup_same]
  refine lcL_ind (fun i acc G => acc = (((shownL L).take i).map (ltrD L)).map .str ∧ G p = some (.dct (dictS (wrs L))) ∧ G p2 = some (.lst ((shownL L).map encS))) ?_ ?_ _ _ ⟨by simp, hG, gup_same⟩
  · rintro i d F hd hF acc G ⟨rfl, hG, hG2⟩
    obtain ⟨s, hs, rfl, hm⟩ := map_get hd
    refine ⟨hG2, ?_⟩
    simp only [set_app, drop_app, ret_app, asg_app, par_app, par3_app, put_app, next_app, cont_app, break_app, seq_set, seq_drop, seq_ret, seq_asg, seq_par, seq_par3, seq_put, seq_next, dOp, dUn, dVar, dC, dTup, dLst, dNil, dCons, dCall, dCB, dBM, isTy_str, dTB, dAndT, dOrT, dNotT, dAnd, dOr, dNot, dIf, dTru, truth, dChain, dSl, dPart, dNoPart,  dLc,  dRng1, dRng2,  dEnumT, dgName, dgTup, dgCons, dgNil, dDct0, dYes, dwipe, dstart, rAdd_int, rAdd_str, rAdd_tup, rSub_int, rMul_int, rMod_int, rFdiv_int, rNeg_int, rIs_non, rIsNot_non, rIs_bl, DD.isNonD,  rIx_str, rIx_tup, rIx_scr, rLen_str, rLen_tup, rLen_scr, rTuple_tup, rList_tup, rIn_s1, rIn_s2, rIn_s3, rMax2_int, rMin2_int, rInt1_int, rSl_str, rSl_tup, rev_app, revK_tup, seqX_app, seqK_tup, seqK_str, zip_app, zipK_tup, rLt_int, rLe_int, rGt_int, rGe_int, rLt_str, rLe_str, rGt_str, rGe_str, rOrd_encS, DD.rEq_int, DD.rEq_str, DD.rEq_bl, DD.rNe_int, DD.rNe_str, rEq_encS, rEq_encO, rEq_OS, atI_0, atI_1, atI_2, atI_3, atI_4, atI_5, atI_snoc, ob_some, gup_same, List.map_cons, List.map_nil, List.length_cons, List.length_nil, List.cons_append, List.nil_append, List.getElem?_cons_zero, List.getElem?_cons_succ, List.set_cons_zero, List.set_cons_succ, List.replicate_zero, List.replicate_succ, Nat.reduceSub, Nat.reduceAdd, if_true, if_false, Bool.false_eq_true, Bool.not_true, Bool.not_false, true_and, and_true]
    rw [rIx_dct hG, fd_all (wrs L) s, (ltrD_of hW (shownL_mem hW hm)).1, ob_some]
    refine ⟨keyS_ok s, hF _ _ ⟨?_, hG, hG2⟩⟩
    rw [take_snoc hs]
    simp
  · rintro acc G ⟨rfl, hG, hG2⟩
    refine ⟨hG2, fun p3 hp3 => ?_⟩
    rw [rJoin_lst gup_same, List.length_map, List.take_length]
    have h1 : ∀ a ∈ (shownL L).map (ltrD L), a.length = 1 := by
      intro a ha
      obtain ⟨s, hs, rfl⟩ := List.mem_map.mp ha
      exact (ltrD_of hW (shownL_mem hW hs)).2
    have hl := shownL_len hW
    have hs : (((shownL L).map (ltrD L)).map (·.length)).sum = (shownL L).length := by
      generalize shownL L = l at h1 ⊢
      induction l with
      | nil => rfl
      | cons a l ih =>
        rw [List.map_cons, List.map_cons, List.sum_cons, ih fun b hb => h1 b (List.mem_cons_of_mem _ hb), h1 _ List.mem_cons_self, List.length_cons]
        omega
    refine ⟨⟨?_, ?_⟩, rfl⟩
    · rw [hs, List.length_map]
      show _ + _ * 0 ≤ _
      omega
    · rw [PySem.W.KT.join_ones _ h1, List.length_map]
      omega
theorem good_text {P : Program} {w : World} {K : PySem.W.Frag} {mg : Str → Option Value} {base : Heap} (D0 : DefAt K mg "text" (top 9)) (G_letters_of : Good P w K mg base "letters_of" ps_letters_of 1 sp_letters_of) (G_shown : Good P w K mg base "shown" ps_shown 3 sp_shown) : Good P w K mg base "text" ps_text 4 sp_text :=
  goodP D0 sc_text t_text bind_text len_text (fun f cdv A outer s H E hr => der_text G_letters_of G_shown f cdv A outer s H E hr) pure_text
/-! ### places_of -/
def rel_places_of (ds : List D) (o : O) : Prop := ∃ L, PreL1 ds L ∧ o = .dct (dictS (pls L))
def sp_places_of : DSp := spN rel_places_of
abbrev N_places_of : List Str := ["deeds", "place", "stamp"]
abbrev ps_places_of : List Str := ["deeds"]
def t_places_of : DTS :=
  (dRet (dCB rDict (dCons (dLc (dEnumT (dCons (dCall sp_order ex0 (dCons (dVar 0) dNil)) dNil)) (dgTup 2 (dgCons (dgName 1) (dgCons (dgName 2) dgNil))) dYes (dTup (dCons (dVar 2) (dCons (dVar 1) dNil))) [1, 2]) dNil)))
theorem sc_places_of : FnScope N_places_of ps_places_of (defScope (top 11)) := ⟨rfl, rfl, rfl, by decide +kernel, rfl, by decide +kernel, by decide +kernel⟩
theorem der_places_of {P : Program} {w : World} {K : PySem.W.Frag} {mg : Str → Option Value} {base : Heap} (g_dict : mg "dict" = none) (g_enumerate : mg "enumerate" = none) (G_order : Good P w K mg base "order" ps_order 1 sp_order) (f : Addr) (cdv : Value) (A : Around) (outer : List Env) (s : Shared) (H : Hp) (E : XK)
    (hr : Room 1 (A.deeper (envOfC "places_of" (defScope (top 11)) s.heap.objs.size f cdv))) :
    DSs (cxOf CX0 P w K mg base N_places_of "places_of" (defScope (top 11)) f cdv A outer s H E).nox (Rg.top K w) (defBody (top 11)) t_places_of := by
  have S := sc_places_of
  exact (dss_one (ds_ret (de_callTy (call_dictD rfl hr.units) rfl g_dict rfl (da_cons (de_lc (own := [("place", 1), ("stamp", 2)]) rfl S.nd (di_enumT rfl g_enumerate (da_cons (de_callG G_order hr rfl (da_cons (de_var (pv 0)) da_nil)) da_nil)) (show BlkOk N_places_of (defScope (top 11)) _ _ from ⟨rfl, by decide +kernel, by decide +kernel, by decide +kernel, by decide +kernel⟩) (fun _ _ _ _ _ => (dg_tup rfl (dgs_cons (dg_name (pg_name (i := 1) S.nd rfl (by first | exact Or.inl rfl | exact Or.inr rfl)) (by decide) (by decide)) (dgs_cons (dg_name (pg_name (i := 2) S.nd rfl (by first | exact Or.inl rfl | exact Or.inr rfl)) (by decide) (by decide)) dgs_nil)))) (fun _ _ _ _ _ => dts_nil) (fun _ _ _ _ _ => (de_tup (da_cons (de_var (pv 2)) (da_cons (de_var (pv 1)) da_nil))))) da_nil))))
theorem bind_places_of (kV doc pm : Value) (an : Option Addr) (cdv ct : Value) (us : List Value) (hl : us.length = ps_places_of.length) : bindArgs (PySem.W.fnOf "places_of" "places_of" (defArgs (top 11)) (defBody (top 11)) (defScope (top 11)) .none kV doc pm an cdv ct) ⟨us, []⟩ = pure (ps_places_of.zip us) := match us, hl with | [_], _ => rfl
theorem len_places_of : ∀ ds o, rel_places_of ds o → ds.length = ps_places_of.length := by
  rintro ds o ⟨L, ⟨rfl, _⟩, _⟩; rfl
theorem pure_places_of : ∀ ds o, rel_places_of ds o → t_places_of { nx := fun _ _ => False, rt := fun d G' => ∃ p, d = .ref p ∧ G' p = some o } (dstart N_places_of ds) g0 := by
  rintro ds o ⟨L, ⟨rfl, hW, hL⟩, rfl⟩
  simp only [t_places_of, N_places_of, set_app, drop_app, ret_app, asg_app, par_app, par3_app, put_app, next_app, cont_app, break_app, seq_set, seq_drop, seq_ret, seq_asg, seq_par, seq_par3, seq_put, seq_next, dOp, dUn, dVar, dC, dTup, dLst, dNil, dCons, dCall, dCB, dBM, isTy_str, dTB, dAndT, dOrT, dNotT, dAnd, dOr, dNot, dIf, dTru, truth, dChain, dSl, dPart, dNoPart,  dLc,  dRng1, dRng2,  dEnumT, dgName, dgTup, dgCons, dgNil, dDct0, dYes, dwipe, dstart, rAdd_int, rAdd_str, rAdd_tup, rSub_int, rMul_int, rMod_int, rFdiv_int, rNeg_int, rIs_non, rIsNot_non, rIs_bl, DD.isNonD,  rIx_str, rIx_tup, rIx_scr, rLen_str, rLen_tup, rLen_scr, rTuple_tup, rList_tup, rIn_s1, rIn_s2, rIn_s3, rMax2_int, rMin2_int, rInt1_int, rSl_str, rSl_tup, rev_app, revK_tup, seqX_app, seqK_tup, seqK_str, zip_app, zipK_tup, rLt_int, rLe_int, rGt_int, rGe_int, rLt_str, rLe_str, rGt_str, rGe_str, rOrd_encS, DD.rEq_int, DD.rEq_str, DD.rEq_bl, DD.rNe_int, DD.rNe_str, rEq_encS, rEq_encO, rEq_OS, atI_0, atI_1, atI_2, atI_3, atI_4, atI_5, atI_snoc, ob_some, gup_same, List.map_cons, List.map_nil, List.length_cons, List.length_nil, List.cons_append, List.nil_append, List.getElem?_cons_zero, List.getElem?_cons_succ, List.set_cons_zero, List.set_cons_succ, List.replicate_zero, List.replicate_succ, Nat.reduceSub, Nat.reduceAdd, if_true, if_false, Bool.false_eq_true, Bool.not_true, Bool.not_false, true_and, and_true]
  refine order_use hW hL ?_
  simp only []
  have ee : enumD ((ordI L).map encS) = (ordI L).zipIdx.map fun p => .tup [.int (p.2 : Nat), encS p.1] := by
    unfold enumD
    rw [List.zipIdx_map, List.map_map]
    rfl
  rw [ee]
  refine lcL_ind (fun i acc G => acc = (((ordI L).zipIdx.take i).map fun p => (p.1, D.int (p.2 : Nat))).map fun x => .tup [encS x.1, x.2]) ?_ ?_ _ _ rfl
  · rintro i d F hd hF acc G rfl
    obtain ⟨e, he, rfl, hm⟩ := map_get hd
    refine ⟨trivial, ?_⟩
    simp only [set_app, drop_app, ret_app, asg_app, par_app, par3_app, put_app, next_app, cont_app, break_app, seq_set, seq_drop, seq_ret, seq_asg, seq_par, seq_par3, seq_put, seq_next, dOp, dUn, dVar, dC, dTup, dLst, dNil, dCons, dCall, dCB, dBM, isTy_str, dTB, dAndT, dOrT, dNotT, dAnd, dOr, dNot, dIf, dTru, truth, dChain, dSl, dPart, dNoPart,  dLc,  dRng1, dRng2,  dEnumT, dgName, dgTup, dgCons, dgNil, dDct0, dYes, dwipe, dstart, rAdd_int, rAdd_str, rAdd_tup, rSub_int, rMul_int, rMod_int, rFdiv_int, rNeg_int, rIs_non, rIsNot_non, rIs_bl, DD.isNonD,  rIx_str, rIx_tup, rIx_scr, rLen_str, rLen_tup, rLen_scr, rTuple_tup, rList_tup, rIn_s1, rIn_s2, rIn_s3, rMax2_int, rMin2_int, rInt1_int, rSl_str, rSl_tup, rev_app, revK_tup, seqX_app, seqK_tup, seqK_str, zip_app, zipK_tup, rLt_int, rLe_int, rGt_int, rGe_int, rLt_str, rLe_str, rGt_str, rGe_str, rOrd_encS, DD.rEq_int, DD.rEq_str, DD.rEq_bl, DD.rNe_int, DD.rNe_str, rEq_encS, rEq_encO, rEq_OS, atI_0, atI_1, atI_2, atI_3, atI_4, atI_5, atI_snoc, ob_some, gup_same, List.map_cons, List.map_nil, List.length_cons, List.length_nil, List.cons_append, List.nil_append, List.getElem?_cons_zero, List.getElem?_cons_succ, List.set_cons_zero, List.set_cons_succ, List.replicate_zero, List.replicate_succ, Nat.reduceSub, Nat.reduceAdd, if_true, if_false, Bool.false_eq_true, Bool.not_true, Bool.not_false, true_and, and_true]
    refine hF _ _ ?_
    rw [take_snoc he]
    simp
  · rintro acc G rfl
    refine ⟨trivial, fun p hp => ?_⟩
    rw [List.length_map, List.take_length]
    rw [rDict_lst gup_same (pairsD_map _ _ _)]
    refine ⟨⟨fun x hx => ?_, by rw [List.length_map, List.length_map, List.length_zipIdx]; have := (ordI_ok hW).2.2; omega⟩, fun p2 hp2 => ⟨p2, rfl, gup_same⟩⟩
    obtain ⟨y, _, rfl⟩ := List.mem_map.mp hx
    exact keyS_ok y.1
theorem good_places_of {P : Program} {w : World} {K : PySem.W.Frag} {mg : Str → Option Value} {base : Heap} (D0 : DefAt K mg "places_of" (top 11)) (g_dict : mg "dict" = none) (g_enumerate : mg "enumerate" = none) (G_order : Good P w K mg base "order" ps_order 1 sp_order) : Good P w K mg base "places_of" ps_places_of 2 sp_places_of :=
  goodN D0 sc_places_of t_places_of bind_places_of len_places_of (fun f cdv A outer s H E hr => der_places_of g_dict g_enumerate G_order f cdv A outer s H E hr) pure_places_of
theorem places_use {L : List Deed} {G : DG} {Q : DK} {RE : DX} (hW : Wf L) (hL : L.length ≤ 1000) (q : ∀ p, G p = none → Q (.ref p) (gup G p (.dct (dictS (pls L))))) : sp_places_of [.tup (L.map M.encD)] G Q RE := ⟨_, ⟨L, ⟨rfl, hW, hL⟩, rfl⟩, q⟩
/-! ### is_covered -/
def sp_is_covered : DSp := fun ds G R _ => ∃ L p st b f e v s, ds = [D.ref p, M.encD (.mark st b f e v), encS s] ∧ Wf L ∧ f ∈ lets L ∧ (∀ t, e = some t → t ∈ lets L) ∧ (e = none → b = true) ∧ s ∈ lets L ∧ G p = some (.dct (dictS (pls L))) ∧ R (.bl (cov L b f e s)) G
abbrev N_is_covered : List Str := ["places", "mark", "stamp", "kind", "first", "end"]
abbrev ps_is_covered : List Str := ["places", "mark", "stamp"]
def t_is_covered : DTS :=
  (dSeq (dAsg (dSl rSl (dVar 1) (dPart (dC (.int 2))) (dPart (dC (.int 5)))) (dgTup 3 (dgCons (dgName 3) (dgCons (dgName 4) (dgCons (dgName 5) dgNil))))) (dSeq (dIfS (dTB (dOp (rOrd .lt) (dOp rIx (dVar 0) (dVar 2)) (dOp rIx (dVar 0) (dVar 4)))) (dRet (dC (.bl false))) dNext) (dSeq (dIfS (dTB (dOp rEq (dVar 3) (dC (.str "link")))) (dRet (dOp (rOrd .le) (dOp rIx (dVar 0) (dVar 2)) (dOp rIx (dVar 0) (dVar 5)))) dNext) (dRet (dOr (dOp rIs (dVar 5) (dC .non)) (dOp (rOrd .lt) (dOp rIx (dVar 0) (dVar 2)) (dOp rIx (dVar 0) (dVar 5))))))))
theorem sc_is_covered : FnScope N_is_covered ps_is_covered (defScope (top 10)) := ⟨rfl, rfl, rfl, by decide +kernel, rfl, by decide +kernel, by decide +kernel⟩
theorem der_is_covered {P : Program} {w : World} {K : PySem.W.Frag} {mg : Str → Option Value} {base : Heap} (f : Addr) (cdv : Value) (A : Around) (outer : List Env) (s : Shared) (H : Hp) (E : XK)
    (hr : Room 0 (A.deeper (envOfC "is_covered" (defScope (top 10)) s.heap.objs.size f cdv))) :
    DSs (cxOf CX0 P w K mg base N_is_covered "is_covered" (defScope (top 10)) f cdv A outer s H E).nox (Rg.top K w) (defBody (top 10)) t_is_covered := by
  have S := sc_is_covered
  exact (dss_cons (ds_asg (vs := [3, 4, 5]) (de_slice sl_D (de_var (pv 1)) (do_some de_int) (do_some de_int)) (dg_tup rfl (dgs_cons (dg_name (pg_name (i := 3) S.nd rfl (by first | exact Or.inl rfl | exact Or.inr rfl)) (by decide) (by decide)) (dgs_cons (dg_name (pg_name (i := 4) S.nd rfl (by first | exact Or.inl rfl | exact Or.inr rfl)) (by decide) (by decide)) (dgs_cons (dg_name (pg_name (i := 5) S.nd rfl (by first | exact Or.inl rfl | exact Or.inr rfl)) (by decide) (by decide)) dgs_nil)))))
    (dss_cons (ds_if (dt_cmp (op_ltD hr.units) (de_ix (ix_D hr.units) (de_var (pv 0)) (de_var (pv 2))) (de_ix (ix_D hr.units) (de_var (pv 0)) (de_var (pv 4))) (by rfl)) (dss_one (ds_ret de_bl)) dss_nil)
    (dss_cons (ds_if (dt_cmp (op_eqD hr.units) (de_var (pv 3)) de_str (by rfl)) (dss_one (ds_ret (de_cmp (op_leD hr.units) (de_ix (ix_D hr.units) (de_var (pv 0)) (de_var (pv 2))) (de_ix (ix_D hr.units) (de_var (pv 0)) (de_var (pv 5))) (by rfl)))) dss_nil)
    (dss_one (ds_ret (de_or (de_cmp op_isD (de_var (pv 5)) de_non (by rfl)) (de_one (de_cmp (op_ltD hr.units) (de_ix (ix_D hr.units) (de_var (pv 0)) (de_var (pv 2))) (de_ix (ix_D hr.units) (de_var (pv 0)) (de_var (pv 5))) (by rfl)))))))))
theorem bind_is_covered (kV doc pm : Value) (an : Option Addr) (cdv ct : Value) (us : List Value) (hl : us.length = ps_is_covered.length) : bindArgs (PySem.W.fnOf "is_covered" "is_covered" (defArgs (top 10)) (defBody (top 10)) (defScope (top 10)) .none kV doc pm an cdv ct) ⟨us, []⟩ = pure (ps_is_covered.zip us) := match us, hl with | [_, _, _], _ => rfl
theorem len_is_covered : ∀ ds G R RE, sp_is_covered ds G R RE → ds.length = ps_is_covered.length := by
  rintro ds G R RE ⟨L, p, st, b, f, e, v, s, rfl, _⟩; rfl
theorem pure_is_covered : ∀ ds G R RE, sp_is_covered ds G R RE → t_is_covered { nx := fun _ G' => R .non G', rt := R } (dstart N_is_covered ds) G := by
  rintro ds G R RE ⟨L, p, st, b, f, e, v, s, rfl, hW, hf, he, heb, hs, hG, hR⟩
  have em : M.encD (.mark st b f e v) = .tup [.str "mark", encS st, .str (if b = true then "bold" else "link"), encS f, encO e, encV v] := rfl
  rw [em]
  simp only [t_is_covered, N_is_covered, set_app, drop_app, ret_app, asg_app, par_app, par3_app, put_app, next_app, cont_app, break_app, seq_set, seq_drop, seq_ret, seq_asg, seq_par, seq_par3, seq_put, seq_next, dOp, dUn, dVar, dC, dTup, dLst, dNil, dCons, dCall, dCB, dBM, isTy_str, dTB, dAndT, dOrT, dNotT, dAnd, dOr, dNot, dIf, dTru, truth, dChain, dSl, dPart, dNoPart,  dLc,  dRng1, dRng2,  dEnumT, dgName, dgTup, dgCons, dgNil, dDct0, dYes, dwipe, dstart, rAdd_int, rAdd_str, rAdd_tup, rSub_int, rMul_int, rMod_int, rFdiv_int, rNeg_int, rIs_non, rIsNot_non, rIs_bl, DD.isNonD,  rIx_str, rIx_tup, rIx_scr, rLen_str, rLen_tup, rLen_scr, rTuple_tup, rList_tup, rIn_s1, rIn_s2, rIn_s3, rMax2_int, rMin2_int, rInt1_int, rSl_str, rSl_tup, rev_app, revK_tup, seqX_app, seqK_tup, seqK_str, zip_app, zipK_tup, rLt_int, rLe_int, rGt_int, rGe_int, rLt_str, rLe_str, rGt_str, rGe_str, rOrd_encS, DD.rEq_int, DD.rEq_str, DD.rEq_bl, DD.rNe_int, DD.rNe_str, rEq_encS, rEq_encO, rEq_OS, atI_0, atI_1, atI_2, atI_3, atI_4, atI_5, atI_snoc, ob_some, gup_same, List.map_cons, List.map_nil, List.length_cons, List.length_nil, List.cons_append, List.nil_append, List.getElem?_cons_zero, List.getElem?_cons_succ, List.set_cons_zero, List.set_cons_succ, List.replicate_zero, List.replicate_succ, Nat.reduceSub, Nat.reduceAdd, if_true, if_false, Bool.false_eq_true, Bool.not_true, Bool.not_false, true_and, and_true]
  have ec : DD.cut [D.str "mark", encS st, D.str (if b = true then "bold" else "link"), encS f, encO e, encV v] (some 2) (some 5) = [D.str (if b = true then "bold" else "link"), encS f, encO e] := rfl
  rw [ec]
  simp only [set_app, drop_app, ret_app, asg_app, par_app, par3_app, put_app, next_app, cont_app, break_app, seq_set, seq_drop, seq_ret, seq_asg, seq_par, seq_par3, seq_put, seq_next, dOp, dUn, dVar, dC, dTup, dLst, dNil, dCons, dCall, dCB, dBM, isTy_str, dTB, dAndT, dOrT, dNotT, dAnd, dOr, dNot, dIf, dTru, truth, dChain, dSl, dPart, dNoPart,  dLc,  dRng1, dRng2,  dEnumT, dgName, dgTup, dgCons, dgNil, dDct0, dYes, dwipe, dstart, rAdd_int, rAdd_str, rAdd_tup, rSub_int, rMul_int, rMod_int, rFdiv_int, rNeg_int, rIs_non, rIsNot_non, rIs_bl, DD.isNonD,  rIx_str, rIx_tup, rIx_scr, rLen_str, rLen_tup, rLen_scr, rTuple_tup, rList_tup, rIn_s1, rIn_s2, rIn_s3, rMax2_int, rMin2_int, rInt1_int, rSl_str, rSl_tup, rev_app, revK_tup, seqX_app, seqK_tup, seqK_str, zip_app, zipK_tup, rLt_int, rLe_int, rGt_int, rGe_int, rLt_str, rLe_str, rGt_str, rGe_str, rOrd_encS, DD.rEq_int, DD.rEq_str, DD.rEq_bl, DD.rNe_int, DD.rNe_str, rEq_encS, rEq_encO, rEq_OS, atI_0, atI_1, atI_2, atI_3, atI_4, atI_5, atI_snoc, ob_some, gup_same, List.map_cons, List.map_nil, List.length_cons, List.length_nil, List.cons_append, List.nil_append, List.getElem?_cons_zero, List.getElem?_cons_succ, List.set_cons_zero, List.set_cons_succ, List.replicate_zero, List.replicate_succ, Nat.reduceSub, Nat.reduceAdd, if_true, if_false, Bool.false_eq_true, Bool.not_true, Bool.not_false, true_and, and_true]
  have at_ : ∀ {t : Stp} {Q : DK}, t ∈ lets L → DD.rIx (.ref p) (encS t) G Q = Q (.int (plc L t : Nat)) G := by
    intro t Q ht
    rw [rIx_dct hG, fd_all (pls L) t, plc_fd hW ht, ob_some]
    exact propext ⟨fun q => q.2, fun q => ⟨keyS_ok t, q⟩⟩
  rw [seq_if]
  simp only [set_app, drop_app, ret_app, asg_app, par_app, par3_app, put_app, next_app, cont_app, break_app, seq_set, seq_drop, seq_ret, seq_asg, seq_par, seq_par3, seq_put, seq_next, dOp, dUn, dVar, dC, dTup, dLst, dNil, dCons, dCall, dCB, dBM, isTy_str, dTB, dAndT, dOrT, dNotT, dAnd, dOr, dNot, dIf, dTru, truth, dChain, dSl, dPart, dNoPart,  dLc,  dRng1, dRng2,  dEnumT, dgName, dgTup, dgCons, dgNil, dDct0, dYes, dwipe, dstart, rAdd_int, rAdd_str, rAdd_tup, rSub_int, rMul_int, rMod_int, rFdiv_int, rNeg_int, rIs_non, rIsNot_non, rIs_bl, DD.isNonD,  rIx_str, rIx_tup, rIx_scr, rLen_str, rLen_tup, rLen_scr, rTuple_tup, rList_tup, rIn_s1, rIn_s2, rIn_s3, rMax2_int, rMin2_int, rInt1_int, rSl_str, rSl_tup, rev_app, revK_tup, seqX_app, seqK_tup, seqK_str, zip_app, zipK_tup, rLt_int, rLe_int, rGt_int, rGe_int, rLt_str, rLe_str, rGt_str, rGe_str, rOrd_encS, DD.rEq_int, DD.rEq_str, DD.rEq_bl, DD.rNe_int, DD.rNe_str, rEq_encS, rEq_encO, rEq_OS, atI_0, atI_1, atI_2, atI_3, atI_4, atI_5, atI_snoc, ob_some, gup_same, List.map_cons, List.map_nil, List.length_cons, List.length_nil, List.cons_append, List.nil_append, List.getElem?_cons_zero, List.getElem?_cons_succ, List.set_cons_zero, List.set_cons_succ, List.replicate_zero, List.replicate_succ, Nat.reduceSub, Nat.reduceAdd, if_true, if_false, Bool.false_eq_true, Bool.not_true, Bool.not_false, true_and, and_true]
  rw [at_ hs, at_ hf, rLt_int]
  have cN : ∀ {m n : Nat}, decide ((m : Int) < (n : Int)) = decide (m < n) := fun {m n} => by
    by_cases h : m < n
    · rw [decide_eq_true h, decide_eq_true (by omega)]
    · rw [decide_eq_false h, decide_eq_false (by omega)]
  have cL : ∀ {m n : Nat}, decide ((m : Int) ≤ (n : Int)) = decide (m ≤ n) := fun {m n} => by
    by_cases h : m ≤ n
    · rw [decide_eq_true h, decide_eq_true (by omega)]
    · rw [decide_eq_false h, decide_eq_false (by omega)]
  rw [cN]
  unfold cov at hR
  by_cases h1 : plc L s < plc L f
  · simp only [h1, decide_true, if_true]
    simp only [h1, decide_true, Bool.not_true, Bool.false_and] at hR
    exact hR
  · simp only [h1, decide_false, Bool.false_eq_true, if_false]
    simp only [h1, decide_false, Bool.not_false, Bool.true_and] at hR
    rw [seq_if]
    simp only [set_app, drop_app, ret_app, asg_app, par_app, par3_app, put_app, next_app, cont_app, break_app, seq_set, seq_drop, seq_ret, seq_asg, seq_par, seq_par3, seq_put, seq_next, dOp, dUn, dVar, dC, dTup, dLst, dNil, dCons, dCall, dCB, dBM, isTy_str, dTB, dAndT, dOrT, dNotT, dAnd, dOr, dNot, dIf, dTru, truth, dChain, dSl, dPart, dNoPart,  dLc,  dRng1, dRng2,  dEnumT, dgName, dgTup, dgCons, dgNil, dDct0, dYes, dwipe, dstart, rAdd_int, rAdd_str, rAdd_tup, rSub_int, rMul_int, rMod_int, rFdiv_int, rNeg_int, rIs_non, rIsNot_non, rIs_bl, DD.isNonD,  rIx_str, rIx_tup, rIx_scr, rLen_str, rLen_tup, rLen_scr, rTuple_tup, rList_tup, rIn_s1, rIn_s2, rIn_s3, rMax2_int, rMin2_int, rInt1_int, rSl_str, rSl_tup, rev_app, revK_tup, seqX_app, seqK_tup, seqK_str, zip_app, zipK_tup, rLt_int, rLe_int, rGt_int, rGe_int, rLt_str, rLe_str, rGt_str, rGe_str, rOrd_encS, DD.rEq_int, DD.rEq_str, DD.rEq_bl, DD.rNe_int, DD.rNe_str, rEq_encS, rEq_encO, rEq_OS, atI_0, atI_1, atI_2, atI_3, atI_4, atI_5, atI_snoc, ob_some, gup_same, List.map_cons, List.map_nil, List.length_cons, List.length_nil, List.cons_append, List.nil_append, List.getElem?_cons_zero, List.getElem?_cons_succ, List.set_cons_zero, List.set_cons_succ, List.replicate_zero, List.replicate_succ, Nat.reduceSub, Nat.reduceAdd, if_true, if_false, Bool.false_eq_true, Bool.not_true, Bool.not_false, true_and, and_true]
    cases b with
    | false =>
      have e0 : (Str.ofString "link" == Str.ofString "link") = true := by decide +kernel
      simp only [Bool.false_eq_true, if_false, e0, if_true]
      cases e with
      | none => exact absurd (heb rfl) (by decide)
      | some t =>
        simp only [Bool.false_eq_true, if_false] at hR
        show DD.rIx (.ref p) (encS s) G _
        rw [at_ hs]
        show DD.rIx (.ref p) (encS t) G _
        rw [at_ (he t rfl), rLe_int, cL]
        exact hR
    | true =>
      have e0 : (Str.ofString "bold" == Str.ofString "link") = false := by decide +kernel
      simp only [if_true, e0, Bool.false_eq_true, if_false]
      cases e with
      | none => exact hR
      | some t =>
        simp only [if_true] at hR
        simp only [encO, encS, isNonD, Bool.false_eq_true, if_false]
        show DD.rIx (.ref p) (encS s) G _
        rw [at_ hs]
        show DD.rIx (.ref p) (encS t) G _
        rw [at_ (he t rfl), rLt_int, cN]
        exact hR
theorem good_is_covered {P : Program} {w : World} {K : PySem.W.Frag} {mg : Str → Option Value} {base : Heap} (D0 : DefAt K mg "is_covered" (top 10)) : Good P w K mg base "is_covered" ps_is_covered 1 sp_is_covered :=
  good_of D0 sc_is_covered t_is_covered bind_is_covered len_is_covered (fun f cdv A outer s H E hr => der_is_covered  f cdv A outer s H E hr) pure_is_covered
theorem covered_use {L : List Deed} {p : Addr} {m : Deed} {b : Bool} {s : Stp} {G : DG} {Q : DK} {RE : DX} (hW : Wf L) (hm : m ∈ L) (hb : isMk b m = true) (hs : s ∈ lets L) (hG : G p = some (.dct (dictS (pls L)))) (q : Q (.bl (covD L s m)) G) : sp_is_covered [.ref p, M.encD m, encS s] G Q RE := by
  cases m with
  | mark st b' f e v =>
    obtain ⟨h1, h2, h3, _⟩ := hW.mark hm
    exact ⟨L, p, st, b', f, e, v, s, rfl, hW, h1, h2, h3, hs, hG, q⟩
  | _ => cases hb
end K

namespace K
open PySem PySem.Spec PyProof.Rows L2 DD M
/-! ### covers -/
def rel_covers (ds : List D) (d : D) : Prop := ∃ L m b s, ds = [D.tup (L.map M.encD), encS m.st, encS s] ∧ Wf L ∧ L.length ≤ 1000 ∧ m ∈ L ∧ isMk b m = true ∧ s ∈ lets L ∧ d = .bl (covD L s m)
def sp_covers : DSp := spP rel_covers
abbrev N_covers : List Str := ["deeds", "mark", "stamp", "found", "deed"]
abbrev ps_covers : List Str := ["deeds", "mark", "stamp"]
def t_covers : DTS :=
  (dSeq (dSet 3 (dOp rIx (dLc (dSeqX (dVar 0)) (dgName 4) (dTB (dOp rEq (dOp rIx (dVar 4) (dC (.int 1))) (dVar 1))) (dVar 4) [4]) (dC (.int 0)))) (dRet (dCall sp_is_covered ex0 (dCons (dCall sp_places_of ex0 (dCons (dVar 0) dNil)) (dCons (dVar 3) (dCons (dVar 2) dNil))))))
theorem sc_covers : FnScope N_covers ps_covers (defScope (top 12)) := ⟨rfl, rfl, rfl, by decide +kernel, rfl, by decide +kernel, by decide +kernel⟩
theorem der_covers {P : Program} {w : World} {K : PySem.W.Frag} {mg : Str → Option Value} {base : Heap} (G_is_covered : Good P w K mg base "is_covered" ps_is_covered 1 sp_is_covered) (G_places_of : Good P w K mg base "places_of" ps_places_of 2 sp_places_of) (f : Addr) (cdv : Value) (A : Around) (outer : List Env) (s : Shared) (H : Hp) (E : XK)
    (hr : Room 2 (A.deeper (envOfC "covers" (defScope (top 12)) s.heap.objs.size f cdv))) :
    DSs (cxOf CX0 P w K mg base N_covers "covers" (defScope (top 12)) f cdv A outer s H E).nox (Rg.top K w) (defBody (top 12)) t_covers := by
  have S := sc_covers
  exact (dss_cons (ds_set (i := 3) S.nd rfl (by first | exact Or.inl rfl | exact Or.inr rfl) (de_ix (ix_D hr.units) (de_lc (own := [("deed", 4)]) rfl S.nd (di_seq (de_var (pv 0))) (show BlkOk N_covers (defScope (top 12)) _ _ from ⟨rfl, by decide +kernel, by decide +kernel, by decide +kernel, by decide +kernel⟩) (fun _ _ _ _ _ => (dg_name (pg_name (i := 4) S.nd rfl (by first | exact Or.inl rfl | exact Or.inr rfl)) (by decide) (by decide))) (fun _ _ _ _ _ => (dts_one (dt_cmp (op_eqD hr.units) (de_ix (ix_D hr.units) (de_var (pv 4)) de_int) (de_var (pv 1)) (by rfl)))) (fun _ _ _ _ _ => (de_var (pv 4)))) de_int))
    (dss_one (ds_ret (de_callG G_is_covered hr rfl (da_cons (de_callG G_places_of hr rfl (da_cons (de_var (pv 0)) da_nil)) (da_cons (de_var (pv 3)) (da_cons (de_var (pv 2)) da_nil)))))))
theorem bind_covers (kV doc pm : Value) (an : Option Addr) (cdv ct : Value) (us : List Value) (hl : us.length = ps_covers.length) : bindArgs (PySem.W.fnOf "covers" "covers" (defArgs (top 12)) (defBody (top 12)) (defScope (top 12)) .none kV doc pm an cdv ct) ⟨us, []⟩ = pure (ps_covers.zip us) := match us, hl with | [_, _, _], _ => rfl
theorem len_covers : ∀ ds d, rel_covers ds d → ds.length = ps_covers.length := by
  rintro ds d ⟨L, m, b, s, rfl, _⟩; rfl
theorem pure_covers : ∀ ds d, rel_covers ds d → t_covers { nx := fun _ _ => .non = d, rt := fun d' _ => d' = d } (dstart N_covers ds) g0 := by
  rintro ds d ⟨L, m, b, s, rfl, hW, hL, hm, hb, hs, rfl⟩
  simp only [t_covers, N_covers, set_app, drop_app, ret_app, asg_app, par_app, par3_app, put_app, next_app, cont_app, break_app, seq_set, seq_drop, seq_ret, seq_asg, seq_par, seq_par3, seq_put, seq_next, dOp, dUn, dVar, dC, dTup, dLst, dNil, dCons, dCall, dCB, dBM, isTy_str, dTB, dAndT, dOrT, dNotT, dAnd, dOr, dNot, dIf, dTru, truth, dChain, dSl, dPart, dNoPart,  dLc,  dRng1, dRng2,  dEnumT, dgName, dgTup, dgCons, dgNil, dDct0, dYes, dwipe, dstart, rAdd_int, rAdd_str, rAdd_tup, rSub_int, rMul_int, rMod_int, rFdiv_int, rNeg_int, rIs_non, rIsNot_non, rIs_bl, DD.isNonD,  rIx_str, rIx_tup, rIx_scr, rLen_str, rLen_tup, rLen_scr, rTuple_tup, rList_tup, rIn_s1, rIn_s2, rIn_s3, rMax2_int, rMin2_int, rInt1_int, rSl_str, rSl_tup, rev_app, revK_tup, seqX_app, seqK_tup, seqK_str, zip_app, zipK_tup, rLt_int, rLe_int, rGt_int, rGe_int, rLt_str, rLe_str, rGt_str, rGe_str, rOrd_encS, DD.rEq_int, DD.rEq_str, DD.rEq_bl, DD.rNe_int, DD.rNe_str, rEq_encS, rEq_encO, rEq_OS, atI_0, atI_1, atI_2, atI_3, atI_4, atI_5, atI_snoc, ob_some, gup_same, List.map_cons, List.map_nil, List.length_cons, List.length_nil, List.cons_append, List.nil_append, List.getElem?_cons_zero, List.getElem?_cons_succ, List.set_cons_zero, List.set_cons_succ, List.replicate_zero, List.replicate_succ, Nat.reduceSub, Nat.reduceAdd, if_true, if_false, Bool.false_eq_true, Bool.not_true, Bool.not_false, true_and, and_true]
  refine lcL_ind (fun i acc G => acc = ((L.take i).filter fun d => decide (d.st = m.st)).map M.encD) ?_ ?_ _ _ rfl
  · rintro i d F hd hF acc G rfl
    obtain ⟨e, he, rfl, _⟩ := map_get hd
    refine ⟨trivial, ?_⟩
    simp only [set_app, drop_app, ret_app, asg_app, par_app, par3_app, put_app, next_app, cont_app, break_app, seq_set, seq_drop, seq_ret, seq_asg, seq_par, seq_par3, seq_put, seq_next, dOp, dUn, dVar, dC, dTup, dLst, dNil, dCons, dCall, dCB, dBM, isTy_str, dTB, dAndT, dOrT, dNotT, dAnd, dOr, dNot, dIf, dTru, truth, dChain, dSl, dPart, dNoPart,  dLc,  dRng1, dRng2,  dEnumT, dgName, dgTup, dgCons, dgNil, dDct0, dYes, dwipe, dstart, rAdd_int, rAdd_str, rAdd_tup, rSub_int, rMul_int, rMod_int, rFdiv_int, rNeg_int, rIs_non, rIsNot_non, rIs_bl, DD.isNonD,  rIx_str, rIx_tup, rIx_scr, rLen_str, rLen_tup, rLen_scr, rTuple_tup, rList_tup, rIn_s1, rIn_s2, rIn_s3, rMax2_int, rMin2_int, rInt1_int, rSl_str, rSl_tup, rev_app, revK_tup, seqX_app, seqK_tup, seqK_str, zip_app, zipK_tup, rLt_int, rLe_int, rGt_int, rGe_int, rLt_str, rLe_str, rGt_str, rGe_str, rOrd_encS, DD.rEq_int, DD.rEq_str, DD.rEq_bl, DD.rNe_int, DD.rNe_str, rEq_encS, rEq_encO, rEq_OS, atI_0, atI_1, atI_2, atI_3, atI_4, atI_5, atI_snoc, ob_some, gup_same, List.map_cons, List.map_nil, List.length_cons, List.length_nil, List.cons_append, List.nil_append, List.getElem?_cons_zero, List.getElem?_cons_succ, List.set_cons_zero, List.set_cons_succ, List.replicate_zero, List.replicate_succ, Nat.reduceSub, Nat.reduceAdd, if_true, if_false, Bool.false_eq_true, Bool.not_true, Bool.not_false, true_and, and_true]
    obtain ⟨q, eq, q1, q0⟩ := atI_at1 (d := e)
    rw [eq, rIx_tup, q1, ob_some, rEq_encS, ← eq]
    by_cases h : e.st = m.st
    · simp only [h, decide_true, if_true]
      refine hF _ _ ?_
      rw [take_snoc he, List.filter_append]
      simp [h]
    · simp only [h, decide_false, Bool.false_eq_true, if_false]
      refine hF _ _ ?_
      rw [take_snoc he, List.filter_append]
      simp [h]
  · rintro acc G rfl
    refine ⟨trivial, fun p hp => ?_⟩
    rw [List.length_map, List.take_length, filter_st hW.sorted hm]
    rw [rIx_lst gup_same, List.map_cons, List.map_nil, atI_0, ob_some]
    refine places_use hW hL fun p2 hp2 => ?_
    refine covered_use hW hm hb hs gup_same rfl
theorem good_covers {P : Program} {w : World} {K : PySem.W.Frag} {mg : Str → Option Value} {base : Heap} (D0 : DefAt K mg "covers" (top 12)) (G_is_covered : Good P w K mg base "is_covered" ps_is_covered 1 sp_is_covered) (G_places_of : Good P w K mg base "places_of" ps_places_of 2 sp_places_of) : Good P w K mg base "covers" ps_covers 3 sp_covers :=
  goodP D0 sc_covers t_covers bind_covers len_covers (fun f cdv A outer s H E hr => der_covers G_is_covered G_places_of f cdv A outer s H E hr) pure_covers
theorem covers_use {L : List Deed} {m : Deed} {b : Bool} {s : Stp} {G : DG} {Q : DK} {RE : DX} (hW : Wf L) (hL : L.length ≤ 1000) (hm : m ∈ L) (hb : isMk b m = true) (hs : s ∈ lets L) (q : Q (.bl (covD L s m)) G) : sp_covers [.tup (L.map M.encD), encS m.st, encS s] G Q RE := ⟨_, ⟨L, m, b, s, rfl, hW, hL, hm, hb, hs, rfl⟩, q⟩
/-! ### marks_of, counting_marks -/
def kin (b : Bool) : Str := if b = true then "bold" else "link"
theorem kin_eq (b c : Bool) : (kin b == kin c) = (b == c) := by
  cases b <;> cases c
  · exact (by decide +kernel : (Str.ofString "link" == Str.ofString "link") = true)
  · exact (by decide +kernel : (Str.ofString "link" == Str.ofString "bold") = false)
  · exact (by decide +kernel : (Str.ofString "bold" == Str.ofString "link") = false)
  · exact (by decide +kernel : (Str.ofString "bold" == Str.ofString "bold") = true)
theorem encD_mark {st f : Stp} {b : Bool} {e : Option Stp} {v : Val} : M.encD (.mark st b f e v) = .tup [.str "mark", encS st, .str (kin b), encS f, encO e, encV v] := rfl
theorem word_mark (d : Deed) : (d.word == Str.ofString "mark") = (match d with | .mark _ _ _ _ _ => true | _ => false) := by
  cases d with
  | sw on s g =>
    cases on
    · exact (by decide +kernel : (Str.ofString "off" == Str.ofString "mark") = false)
    · exact (by decide +kernel : (Str.ofString "on" == Str.ofString "mark") = false)
  | write s a c => exact (by decide +kernel : (Str.ofString "write" == Str.ofString "mark") = false)
  | cut s g => exact (by decide +kernel : (Str.ofString "cut" == Str.ofString "mark") = false)
  | mark s b f e v => exact (by decide +kernel : (Str.ofString "mark" == Str.ofString "mark") = true)
def PreK (ds : List D) (L : List Deed) (b : Bool) : Prop := ds = [D.tup (L.map M.encD), .str (kin b)] ∧ Wf L ∧ L.length ≤ 1000
def rel_marks_of (ds : List D) (o : O) : Prop := ∃ L b, PreK ds L b ∧ o = .lst ((mks L b).map M.encD)
def sp_marks_of : DSp := spN rel_marks_of
abbrev N_marks_of : List Str := ["deeds", "kind", "deed"]
abbrev ps_marks_of : List Str := ["deeds", "kind"]
def t_marks_of : DTS :=
  (dRet (dRev (dLc (dSeqX (dVar 0)) (dgName 2) (dAndT (dTB (dOp rEq (dOp rIx (dVar 2) (dC (.int 0))) (dC (.str "mark")))) (dTB (dOp rEq (dOp rIx (dVar 2) (dC (.int 2))) (dVar 1)))) (dVar 2) [2])))
theorem sc_marks_of : FnScope N_marks_of ps_marks_of (defScope (top 13)) := ⟨rfl, rfl, rfl, by decide +kernel, rfl, by decide +kernel, by decide +kernel⟩
theorem der_marks_of {P : Program} {w : World} {K : PySem.W.Frag} {mg : Str → Option Value} {base : Heap} (f : Addr) (cdv : Value) (A : Around) (outer : List Env) (s : Shared) (H : Hp) (E : XK)
    (hr : Room 0 (A.deeper (envOfC "marks_of" (defScope (top 13)) s.heap.objs.size f cdv))) :
    DSs (cxOf CX0 P w K mg base N_marks_of "marks_of" (defScope (top 13)) f cdv A outer s H E).nox (Rg.top K w) (defBody (top 13)) t_marks_of := by
  have S := sc_marks_of
  exact (dss_one (ds_ret (de_rev (de_lc (own := [("deed", 2)]) rfl S.nd (di_seq (de_var (pv 0))) (show BlkOk N_marks_of (defScope (top 13)) _ _ from ⟨rfl, by decide +kernel, by decide +kernel, by decide +kernel, by decide +kernel⟩) (fun _ _ _ _ _ => (dg_name (pg_name (i := 2) S.nd rfl (by first | exact Or.inl rfl | exact Or.inr rfl)) (by decide) (by decide))) (fun _ _ _ _ _ => (dts_one (dt_w (dw_and (dt_cmp (op_eqD hr.units) (de_ix (ix_D hr.units) (de_var (pv 2)) de_int) de_str (by rfl)) (dw_and1 (dt_cmp (op_eqD hr.units) (de_ix (ix_D hr.units) (de_var (pv 2)) de_int) (de_var (pv 1)) (by rfl))))))) (fun _ _ _ _ _ => (de_var (pv 2)))))))
theorem bind_marks_of (kV doc pm : Value) (an : Option Addr) (cdv ct : Value) (us : List Value) (hl : us.length = ps_marks_of.length) : bindArgs (PySem.W.fnOf "marks_of" "marks_of" (defArgs (top 13)) (defBody (top 13)) (defScope (top 13)) .none kV doc pm an cdv ct) ⟨us, []⟩ = pure (ps_marks_of.zip us) := match us, hl with | [_, _], _ => rfl
theorem len_marks_of : ∀ ds o, rel_marks_of ds o → ds.length = ps_marks_of.length := by
  rintro ds o ⟨L, b, ⟨rfl, _⟩, _⟩; rfl
theorem pure_marks_of : ∀ ds o, rel_marks_of ds o → t_marks_of { nx := fun _ _ => False, rt := fun d G' => ∃ p, d = .ref p ∧ G' p = some o } (dstart N_marks_of ds) g0 := by
  rintro ds o ⟨L, b, ⟨rfl, hW, hL⟩, rfl⟩
  simp only [t_marks_of, N_marks_of, set_app, drop_app, ret_app, asg_app, par_app, par3_app, put_app, next_app, cont_app, break_app, seq_set, seq_drop, seq_ret, seq_asg, seq_par, seq_par3, seq_put, seq_next, dOp, dUn, dVar, dC, dTup, dLst, dNil, dCons, dCall, dCB, dBM, isTy_str, dTB, dAndT, dOrT, dNotT, dAnd, dOr, dNot, dIf, dTru, truth, dChain, dSl, dPart, dNoPart,  dLc,  dRng1, dRng2,  dEnumT, dgName, dgTup, dgCons, dgNil, dDct0, dYes, dwipe, dstart, rAdd_int, rAdd_str, rAdd_tup, rSub_int, rMul_int, rMod_int, rFdiv_int, rNeg_int, rIs_non, rIsNot_non, rIs_bl, DD.isNonD,  rIx_str, rIx_tup, rIx_scr, rLen_str, rLen_tup, rLen_scr, rTuple_tup, rList_tup, rIn_s1, rIn_s2, rIn_s3, rMax2_int, rMin2_int, rInt1_int, rSl_str, rSl_tup, rev_app, revK_tup, seqX_app, seqK_tup, seqK_str, zip_app, zipK_tup, rLt_int, rLe_int, rGt_int, rGe_int, rLt_str, rLe_str, rGt_str, rGe_str, rOrd_encS, DD.rEq_int, DD.rEq_str, DD.rEq_bl, DD.rNe_int, DD.rNe_str, rEq_encS, rEq_encO, rEq_OS, atI_0, atI_1, atI_2, atI_3, atI_4, atI_5, atI_snoc, ob_some, gup_same, List.map_cons, List.map_nil, List.length_cons, List.length_nil, List.cons_append, List.nil_append, List.getElem?_cons_zero, List.getElem?_cons_succ, List.set_cons_zero, List.set_cons_succ, List.replicate_zero, List.replicate_succ, Nat.reduceSub, Nat.reduceAdd, if_true, if_false, Bool.false_eq_true, Bool.not_true, Bool.not_false, true_and, and_true]
  refine lcL_ind (fun i acc G => acc = ((L.take i).filter (isMk b)).map M.encD) ?_ ?_ _ _ rfl
  · rintro i d F hd hF acc G rfl
    obtain ⟨e, he, rfl, _⟩ := map_get hd
    refine ⟨trivial, ?_⟩
    simp only [set_app, drop_app, ret_app, asg_app, par_app, par3_app, put_app, next_app, cont_app, break_app, seq_set, seq_drop, seq_ret, seq_asg, seq_par, seq_par3, seq_put, seq_next, dOp, dUn, dVar, dC, dTup, dLst, dNil, dCons, dCall, dCB, dBM, isTy_str, dTB, dAndT, dOrT, dNotT, dAnd, dOr, dNot, dIf, dTru, truth, dChain, dSl, dPart, dNoPart,  dLc,  dRng1, dRng2,  dEnumT, dgName, dgTup, dgCons, dgNil, dDct0, dYes, dwipe, dstart, rAdd_int, rAdd_str, rAdd_tup, rSub_int, rMul_int, rMod_int, rFdiv_int, rNeg_int, rIs_non, rIsNot_non, rIs_bl, DD.isNonD,  rIx_str, rIx_tup, rIx_scr, rLen_str, rLen_tup, rLen_scr, rTuple_tup, rList_tup, rIn_s1, rIn_s2, rIn_s3, rMax2_int, rMin2_int, rInt1_int, rSl_str, rSl_tup, rev_app, revK_tup, seqX_app, seqK_tup, seqK_str, zip_app, zipK_tup, rLt_int, rLe_int, rGt_int, rGe_int, rLt_str, rLe_str, rGt_str, rGe_str, rOrd_encS, DD.rEq_int, DD.rEq_str, DD.rEq_bl, DD.rNe_int, DD.rNe_str, rEq_encS, rEq_encO, rEq_OS, atI_0, atI_1, atI_2, atI_3, atI_4, atI_5, atI_snoc, ob_some, gup_same, List.map_cons, List.map_nil, List.length_cons, List.length_nil, List.cons_append, List.nil_append, List.getElem?_cons_zero, List.getElem?_cons_succ, List.set_cons_zero, List.set_cons_succ, List.replicate_zero, List.replicate_succ, Nat.reduceSub, Nat.reduceAdd, if_true, if_false, Bool.false_eq_true, Bool.not_true, Bool.not_false, true_and, and_true]
    obtain ⟨q, eq, q1, q0⟩ := atI_at1 (d := e)
    rw [eq, rIx_tup, q0, ob_some, DD.rEq_str, word_mark, ← eq]
    have eT := take_snoc he
    cases e with
    | mark st b' f e v =>
      simp only [if_true]
      rw [encD_mark, rIx_tup, atI_2, ob_some, DD.rEq_str, kin_eq, ← encD_mark]
      by_cases h : (b' == b) = true
      · simp only [h, if_true]
        refine hF _ _ ?_
        rw [eT, List.filter_append]
        simp [isMk, h]
      · simp only [h, if_false]
        refine hF _ _ ?_
        rw [eT, List.filter_append]
        simp [isMk, h]
    | _ =>
      simp only [Bool.false_eq_true, if_false]
      refine hF _ _ ?_
      rw [eT, List.filter_append]
      simp [isMk]
  · rintro acc G rfl
    refine ⟨trivial, fun p hp => ?_⟩
    rw [List.length_map, List.take_length, revK_lst gup_same]
    intro p2 hp2
    refine ⟨p2, rfl, ?_⟩
    rw [gup_same, ← List.map_reverse]
    rfl
theorem good_marks_of {P : Program} {w : World} {K : PySem.W.Frag} {mg : Str → Option Value} {base : Heap} (D0 : DefAt K mg "marks_of" (top 13)) : Good P w K mg base "marks_of" ps_marks_of 1 sp_marks_of :=
  goodN D0 sc_marks_of t_marks_of bind_marks_of len_marks_of (fun f cdv A outer s H E hr => der_marks_of  f cdv A outer s H E hr) pure_marks_of
def rel_counting_marks (ds : List D) (o : O) : Prop := ∃ L b, PreK ds L b ∧ o = .lst ((cms L b).map M.encD)
def sp_counting_marks : DSp := spN rel_counting_marks
abbrev N_counting_marks : List Str := ["deeds", "kind", "mark"]
abbrev ps_counting_marks : List Str := ["deeds", "kind"]
def t_counting_marks : DTS :=
  (dRet (dLc (dSeqX (dCall sp_marks_of ex0 (dCons (dVar 0) (dCons (dVar 1) dNil)))) (dgName 2) (dTru (dCall sp_counts ex0 (dCons (dVar 0) (dCons (dOp rIx (dVar 2) (dC (.int 1))) dNil)))) (dVar 2) [2]))
theorem sc_counting_marks : FnScope N_counting_marks ps_counting_marks (defScope (top 15)) := ⟨rfl, rfl, rfl, by decide +kernel, rfl, by decide +kernel, by decide +kernel⟩
theorem der_counting_marks {P : Program} {w : World} {K : PySem.W.Frag} {mg : Str → Option Value} {base : Heap} (G_counts : Good P w K mg base "counts" ps_counts 1 sp_counts) (G_marks_of : Good P w K mg base "marks_of" ps_marks_of 1 sp_marks_of) (f : Addr) (cdv : Value) (A : Around) (outer : List Env) (s : Shared) (H : Hp) (E : XK)
    (hr : Room 1 (A.deeper (envOfC "counting_marks" (defScope (top 15)) s.heap.objs.size f cdv))) :
    DSs (cxOf CX0 P w K mg base N_counting_marks "counting_marks" (defScope (top 15)) f cdv A outer s H E).nox (Rg.top K w) (defBody (top 15)) t_counting_marks := by
  have S := sc_counting_marks
  exact (dss_one (ds_ret (de_lc (own := [("mark", 2)]) rfl S.nd (di_seq (de_callG G_marks_of hr rfl (da_cons (de_var (pv 0)) (da_cons (de_var (pv 1)) da_nil)))) (show BlkOk N_counting_marks (defScope (top 15)) _ _ from ⟨rfl, by decide +kernel, by decide +kernel, by decide +kernel, by decide +kernel⟩) (fun _ _ _ _ _ => (dg_name (pg_name (i := 2) S.nd rfl (by first | exact Or.inl rfl | exact Or.inr rfl)) (by decide) (by decide))) (fun _ _ _ _ _ => (dts_one (dt_truth (de_callG G_counts hr rfl (da_cons (de_var (pv 0)) (da_cons (de_ix (ix_D hr.units) (de_var (pv 2)) de_int) da_nil)))))) (fun _ _ _ _ _ => (de_var (pv 2))))))
theorem bind_counting_marks (kV doc pm : Value) (an : Option Addr) (cdv ct : Value) (us : List Value) (hl : us.length = ps_counting_marks.length) : bindArgs (PySem.W.fnOf "counting_marks" "counting_marks" (defArgs (top 15)) (defBody (top 15)) (defScope (top 15)) .none kV doc pm an cdv ct) ⟨us, []⟩ = pure (ps_counting_marks.zip us) := match us, hl with | [_, _], _ => rfl
theorem len_counting_marks : ∀ ds o, rel_counting_marks ds o → ds.length = ps_counting_marks.length := by
  rintro ds o ⟨L, b, ⟨rfl, _⟩, _⟩; rfl
theorem pure_counting_marks : ∀ ds o, rel_counting_marks ds o → t_counting_marks { nx := fun _ _ => False, rt := fun d G' => ∃ p, d = .ref p ∧ G' p = some o } (dstart N_counting_marks ds) g0 := by
  rintro ds o ⟨L, b, ⟨rfl, hW, hL⟩, rfl⟩
  simp only [t_counting_marks, N_counting_marks, set_app, drop_app, ret_app, asg_app, par_app, par3_app, put_app, next_app, cont_app, break_app, seq_set, seq_drop, seq_ret, seq_asg, seq_par, seq_par3, seq_put, seq_next, dOp, dUn, dVar, dC, dTup, dLst, dNil, dCons, dCall, dCB, dBM, isTy_str, dTB, dAndT, dOrT, dNotT, dAnd, dOr, dNot, dIf, dTru, truth, dChain, dSl, dPart, dNoPart,  dLc,  dRng1, dRng2,  dEnumT, dgName, dgTup, dgCons, dgNil, dDct0, dYes, dwipe, dstart, rAdd_int, rAdd_str, rAdd_tup, rSub_int, rMul_int, rMod_int, rFdiv_int, rNeg_int, rIs_non, rIsNot_non, rIs_bl, DD.isNonD,  rIx_str, rIx_tup, rIx_scr, rLen_str, rLen_tup, rLen_scr, rTuple_tup, rList_tup, rIn_s1, rIn_s2, rIn_s3, rMax2_int, rMin2_int, rInt1_int, rSl_str, rSl_tup, rev_app, revK_tup, seqX_app, seqK_tup, seqK_str, zip_app, zipK_tup, rLt_int, rLe_int, rGt_int, rGe_int, rLt_str, rLe_str, rGt_str, rGe_str, rOrd_encS, DD.rEq_int, DD.rEq_str, DD.rEq_bl, DD.rNe_int, DD.rNe_str, rEq_encS, rEq_encO, rEq_OS, atI_0, atI_1, atI_2, atI_3, atI_4, atI_5, atI_snoc, ob_some, gup_same, List.map_cons, List.map_nil, List.length_cons, List.length_nil, List.cons_append, List.nil_append, List.getElem?_cons_zero, List.getElem?_cons_succ, List.set_cons_zero, List.set_cons_succ, List.replicate_zero, List.replicate_succ, Nat.reduceSub, Nat.reduceAdd, if_true, if_false, Bool.false_eq_true, Bool.not_true, Bool.not_false, true_and, and_true]
  refine ⟨_, ⟨L, b, ⟨rfl, hW, hL⟩, rfl⟩, fun p hp => ?_⟩
  show seqK (D.ref p) _ _
  rw [seqK_lst gup_same]
  refine lcL_ind (fun i acc G => acc = (((mks L b).take i).filter fun m => M.counts L m.st).map M.encD ∧ G p = some (.lst ((mks L b).map M.encD))) ?_ ?_ _ _ ⟨rfl, gup_same⟩
  · rintro i d F hd hF acc G ⟨rfl, hG⟩
    obtain ⟨e, he, rfl, _⟩ := map_get hd
    refine ⟨hG, ?_⟩
    simp only [set_app, drop_app, ret_app, asg_app, par_app, par3_app, put_app, next_app, cont_app, break_app, seq_set, seq_drop, seq_ret, seq_asg, seq_par, seq_par3, seq_put, seq_next, dOp, dUn, dVar, dC, dTup, dLst, dNil, dCons, dCall, dCB, dBM, isTy_str, dTB, dAndT, dOrT, dNotT, dAnd, dOr, dNot, dIf, dTru, truth, dChain, dSl, dPart, dNoPart,  dLc,  dRng1, dRng2,  dEnumT, dgName, dgTup, dgCons, dgNil, dDct0, dYes, dwipe, dstart, rAdd_int, rAdd_str, rAdd_tup, rSub_int, rMul_int, rMod_int, rFdiv_int, rNeg_int, rIs_non, rIsNot_non, rIs_bl, DD.isNonD,  rIx_str, rIx_tup, rIx_scr, rLen_str, rLen_tup, rLen_scr, rTuple_tup, rList_tup, rIn_s1, rIn_s2, rIn_s3, rMax2_int, rMin2_int, rInt1_int, rSl_str, rSl_tup, rev_app, revK_tup, seqX_app, seqK_tup, seqK_str, zip_app, zipK_tup, rLt_int, rLe_int, rGt_int, rGe_int, rLt_str, rLe_str, rGt_str, rGe_str, rOrd_encS, DD.rEq_int, DD.rEq_str, DD.rEq_bl, DD.rNe_int, DD.rNe_str, rEq_encS, rEq_encO, rEq_OS, atI_0, atI_1, atI_2, atI_3, atI_4, atI_5, atI_snoc, ob_some, gup_same, List.map_cons, List.map_nil, List.length_cons, List.length_nil, List.cons_append, List.nil_append, List.getElem?_cons_zero, List.getElem?_cons_succ, List.set_cons_zero, List.set_cons_succ, List.replicate_zero, List.replicate_succ, Nat.reduceSub, Nat.reduceAdd, if_true, if_false, Bool.false_eq_true, Bool.not_true, Bool.not_false, true_and, and_true]
    obtain ⟨q, eq, q1, q0⟩ := atI_at1 (d := e)
    rw [eq, rIx_tup, q1, ob_some, ← eq]
    refine counts_use hW hL ?_
    simp only [set_app, drop_app, ret_app, asg_app, par_app, par3_app, put_app, next_app, cont_app, break_app, seq_set, seq_drop, seq_ret, seq_asg, seq_par, seq_par3, seq_put, seq_next, dOp, dUn, dVar, dC, dTup, dLst, dNil, dCons, dCall, dCB, dBM, isTy_str, dTB, dAndT, dOrT, dNotT, dAnd, dOr, dNot, dIf, dTru, truth, dChain, dSl, dPart, dNoPart,  dLc,  dRng1, dRng2,  dEnumT, dgName, dgTup, dgCons, dgNil, dDct0, dYes, dwipe, dstart, rAdd_int, rAdd_str, rAdd_tup, rSub_int, rMul_int, rMod_int, rFdiv_int, rNeg_int, rIs_non, rIsNot_non, rIs_bl, DD.isNonD,  rIx_str, rIx_tup, rIx_scr, rLen_str, rLen_tup, rLen_scr, rTuple_tup, rList_tup, rIn_s1, rIn_s2, rIn_s3, rMax2_int, rMin2_int, rInt1_int, rSl_str, rSl_tup, rev_app, revK_tup, seqX_app, seqK_tup, seqK_str, zip_app, zipK_tup, rLt_int, rLe_int, rGt_int, rGe_int, rLt_str, rLe_str, rGt_str, rGe_str, rOrd_encS, DD.rEq_int, DD.rEq_str, DD.rEq_bl, DD.rNe_int, DD.rNe_str, rEq_encS, rEq_encO, rEq_OS, atI_0, atI_1, atI_2, atI_3, atI_4, atI_5, atI_snoc, ob_some, gup_same, List.map_cons, List.map_nil, List.length_cons, List.length_nil, List.cons_append, List.nil_append, List.getElem?_cons_zero, List.getElem?_cons_succ, List.set_cons_zero, List.set_cons_succ, List.replicate_zero, List.replicate_succ, Nat.reduceSub, Nat.reduceAdd, if_true, if_false, Bool.false_eq_true, Bool.not_true, Bool.not_false, true_and, and_true]
    by_cases h : M.counts L e.st = true
    · simp only [h, if_true]
      refine hF _ _ ⟨?_, hG⟩
      rw [take_snoc he, List.filter_append]
      simp [h]
    · simp only [h, if_false]
      refine hF _ _ ⟨?_, hG⟩
      rw [take_snoc he, List.filter_append]
      simp [h]
  · rintro acc G ⟨rfl, hG⟩
    refine ⟨hG, fun p2 hp2 => ⟨p2, rfl, ?_⟩⟩
    rw [gup_same, List.length_map, List.take_length]
    rfl
theorem good_counting_marks {P : Program} {w : World} {K : PySem.W.Frag} {mg : Str → Option Value} {base : Heap} (D0 : DefAt K mg "counting_marks" (top 15)) (G_counts : Good P w K mg base "counts" ps_counts 1 sp_counts) (G_marks_of : Good P w K mg base "marks_of" ps_marks_of 1 sp_marks_of) : Good P w K mg base "counting_marks" ps_counting_marks 2 sp_counting_marks :=
  goodN D0 sc_counting_marks t_counting_marks bind_counting_marks len_counting_marks (fun f cdv A outer s H E hr => der_counting_marks G_counts G_marks_of f cdv A outer s H E hr) pure_counting_marks
theorem cms_use {L : List Deed} {b : Bool} {G : DG} {Q : DK} {RE : DX} (hW : Wf L) (hL : L.length ≤ 1000) (q : ∀ p, G p = none → Q (.ref p) (gup G p (.lst ((cms L b).map M.encD)))) : sp_counting_marks [.tup (L.map M.encD), .str (kin b)] G Q RE := ⟨_, ⟨L, b, ⟨rfl, hW, hL⟩, rfl⟩, q⟩
/-! ### first_telling, teller, value -/
def encT (o : Option Deed) : D := match o with
  | some m => M.encD m
  | none => .non
def sp_first_telling : DSp := fun ds G R _ => ∃ L b p p2 s, ds = [D.ref p, D.ref p2, encS s] ∧ Wf L ∧ s ∈ lets L ∧ G p = some (.dct (dictS (pls L))) ∧ G p2 = some (.lst ((cms L b).map M.encD)) ∧ R (encT (tell L b s)) G
abbrev N_first_telling : List Str := ["places", "marks", "stamp", "mark"]
abbrev ps_first_telling : List Str := ["places", "marks", "stamp"]
def t_first_telling : DTS :=
  (dSeq (dFor (dSeqX (dVar 1)) (dgName 3) (dIfS (dTru (dCall sp_is_covered ex0 (dCons (dVar 0) (dCons (dVar 3) (dCons (dVar 2) dNil))))) (dRet (dVar 3)) dNext)) (dRet (dC .non)))
theorem sc_first_telling : FnScope N_first_telling ps_first_telling (defScope (top 14)) := ⟨rfl, rfl, rfl, by decide +kernel, rfl, by decide +kernel, by decide +kernel⟩
theorem der_first_telling {P : Program} {w : World} {K : PySem.W.Frag} {mg : Str → Option Value} {base : Heap} (G_is_covered : Good P w K mg base "is_covered" ps_is_covered 1 sp_is_covered) (f : Addr) (cdv : Value) (A : Around) (outer : List Env) (s : Shared) (H : Hp) (E : XK)
    (hr : Room 1 (A.deeper (envOfC "first_telling" (defScope (top 14)) s.heap.objs.size f cdv))) :
    DSs (cxOf CX0 P w K mg base N_first_telling "first_telling" (defScope (top 14)) f cdv A outer s H E).nox (Rg.top K w) (defBody (top 14)) t_first_telling := by
  have S := sc_first_telling
  exact (dss_cons (ds_for (vs := [3]) PassesOwn.never rfl (di_seq (de_var (pv 1))) (dg_name (pg_name (i := 3) S.nd rfl (by first | exact Or.inl rfl | exact Or.inr rfl)) (by decide) (by decide)) (dss_one (ds_if (dt_truth (de_callG G_is_covered hr rfl (da_cons (de_var (pv 0)) (da_cons (de_var (pv 3)) (da_cons (de_var (pv 2)) da_nil))))) (dss_one (ds_ret (de_var (pv 3)))) dss_nil)))
    (dss_one (ds_ret de_non)))
theorem bind_first_telling (kV doc pm : Value) (an : Option Addr) (cdv ct : Value) (us : List Value) (hl : us.length = ps_first_telling.length) : bindArgs (PySem.W.fnOf "first_telling" "first_telling" (defArgs (top 14)) (defBody (top 14)) (defScope (top 14)) .none kV doc pm an cdv ct) ⟨us, []⟩ = pure (ps_first_telling.zip us) := match us, hl with | [_, _, _], _ => rfl
theorem len_first_telling : ∀ ds G R RE, sp_first_telling ds G R RE → ds.length = ps_first_telling.length := by
  rintro ds G R RE ⟨L, b, p, p2, s, rfl, _⟩; rfl
theorem pure_first_telling : ∀ ds G R RE, sp_first_telling ds G R RE → t_first_telling { nx := fun _ G' => R .non G', rt := R } (dstart N_first_telling ds) G := by
  rintro ds G R RE ⟨L, b, p, p2, s, rfl, hW, hs, hG, hG2, hR⟩
  simp only [t_first_telling, N_first_telling, set_app, drop_app, ret_app, asg_app, par_app, par3_app, put_app, next_app, cont_app, break_app, seq_set, seq_drop, seq_ret, seq_asg, seq_par, seq_par3, seq_put, seq_next, dOp, dUn, dVar, dC, dTup, dLst, dNil, dCons, dCall, dCB, dBM, isTy_str, dTB, dAndT, dOrT, dNotT, dAnd, dOr, dNot, dIf, dTru, truth, dChain, dSl, dPart, dNoPart,  dLc,  dRng1, dRng2,  dEnumT, dgName, dgTup, dgCons, dgNil, dDct0, dYes, dwipe, dstart, rAdd_int, rAdd_str, rAdd_tup, rSub_int, rMul_int, rMod_int, rFdiv_int, rNeg_int, rIs_non, rIsNot_non, rIs_bl, DD.isNonD,  rIx_str, rIx_tup, rIx_scr, rLen_str, rLen_tup, rLen_scr, rTuple_tup, rList_tup, rIn_s1, rIn_s2, rIn_s3, rMax2_int, rMin2_int, rInt1_int, rSl_str, rSl_tup, rev_app, revK_tup, seqX_app, seqK_tup, seqK_str, zip_app, zipK_tup, rLt_int, rLe_int, rGt_int, rGe_int, rLt_str, rLe_str, rGt_str, rGe_str, rOrd_encS, DD.rEq_int, DD.rEq_str, DD.rEq_bl, DD.rNe_int, DD.rNe_str, rEq_encS, rEq_encO, rEq_OS, atI_0, atI_1, atI_2, atI_3, atI_4, atI_5, atI_snoc, ob_some, gup_same, List.map_cons, List.map_nil, List.length_cons, List.length_nil, List.cons_append, List.nil_append, List.getElem?_cons_zero, List.getElem?_cons_succ, List.set_cons_zero, List.set_cons_succ, List.replicate_zero, List.replicate_succ, Nat.reduceSub, Nat.reduceAdd, if_true, if_false, Bool.false_eq_true, Bool.not_true, Bool.not_false, true_and, and_true]
  rw [seq_for]
  simp only [set_app, drop_app, ret_app, asg_app, par_app, par3_app, put_app, next_app, cont_app, break_app, seq_set, seq_drop, seq_ret, seq_asg, seq_par, seq_par3, seq_put, seq_next, dOp, dUn, dVar, dC, dTup, dLst, dNil, dCons, dCall, dCB, dBM, isTy_str, dTB, dAndT, dOrT, dNotT, dAnd, dOr, dNot, dIf, dTru, truth, dChain, dSl, dPart, dNoPart,  dLc,  dRng1, dRng2,  dEnumT, dgName, dgTup, dgCons, dgNil, dDct0, dYes, dwipe, dstart, rAdd_int, rAdd_str, rAdd_tup, rSub_int, rMul_int, rMod_int, rFdiv_int, rNeg_int, rIs_non, rIsNot_non, rIs_bl, DD.isNonD,  rIx_str, rIx_tup, rIx_scr, rLen_str, rLen_tup, rLen_scr, rTuple_tup, rList_tup, rIn_s1, rIn_s2, rIn_s3, rMax2_int, rMin2_int, rInt1_int, rSl_str, rSl_tup, rev_app, revK_tup, seqX_app, seqK_tup, seqK_str, zip_app, zipK_tup, rLt_int, rLe_int, rGt_int, rGe_int, rLt_str, rLe_str, rGt_str, rGe_str, rOrd_encS, DD.rEq_int, DD.rEq_str, DD.rEq_bl, DD.rNe_int, DD.rNe_str, rEq_encS, rEq_encO, rEq_OS, atI_0, atI_1, atI_2, atI_3, atI_4, atI_5, atI_snoc, ob_some, gup_same, List.map_cons, List.map_nil, List.length_cons, List.length_nil, List.cons_append, List.nil_append, List.getElem?_cons_zero, List.getElem?_cons_succ, List.set_cons_zero, List.set_cons_succ, List.replicate_zero, List.replicate_succ, Nat.reduceSub, Nat.reduceAdd, if_true, if_false, Bool.false_eq_true, Bool.not_true, Bool.not_false, true_and, and_true]
  rw [seqK_lst hG2]
  rw [← cms_tell] at hR
  refine forL_ind (fun i δ G' => G' = G ∧ ((cms L b).take i).find? (covD L s) = none ∧ ∃ r, δ = [some (.ref p), some (.ref p2), some (encS s), r]) ?_ ?_ _ _ ⟨rfl, by simp, none, rfl⟩
  · rintro i d F hd hF δ G' ⟨eG, hn, r, rfl⟩
    subst eG
    obtain ⟨m, he, rfl, hm⟩ := map_get hd
    obtain ⟨h1, h2, h3⟩ := cms_mem hm
    refine ⟨hG2, ?_⟩
    simp only [set_app, drop_app, ret_app, asg_app, par_app, par3_app, put_app, next_app, cont_app, break_app, seq_set, seq_drop, seq_ret, seq_asg, seq_par, seq_par3, seq_put, seq_next, dOp, dUn, dVar, dC, dTup, dLst, dNil, dCons, dCall, dCB, dBM, isTy_str, dTB, dAndT, dOrT, dNotT, dAnd, dOr, dNot, dIf, dTru, truth, dChain, dSl, dPart, dNoPart,  dLc,  dRng1, dRng2,  dEnumT, dgName, dgTup, dgCons, dgNil, dDct0, dYes, dwipe, dstart, rAdd_int, rAdd_str, rAdd_tup, rSub_int, rMul_int, rMod_int, rFdiv_int, rNeg_int, rIs_non, rIsNot_non, rIs_bl, DD.isNonD,  rIx_str, rIx_tup, rIx_scr, rLen_str, rLen_tup, rLen_scr, rTuple_tup, rList_tup, rIn_s1, rIn_s2, rIn_s3, rMax2_int, rMin2_int, rInt1_int, rSl_str, rSl_tup, rev_app, revK_tup, seqX_app, seqK_tup, seqK_str, zip_app, zipK_tup, rLt_int, rLe_int, rGt_int, rGe_int, rLt_str, rLe_str, rGt_str, rGe_str, rOrd_encS, DD.rEq_int, DD.rEq_str, DD.rEq_bl, DD.rNe_int, DD.rNe_str, rEq_encS, rEq_encO, rEq_OS, atI_0, atI_1, atI_2, atI_3, atI_4, atI_5, atI_snoc, ob_some, gup_same, List.map_cons, List.map_nil, List.length_cons, List.length_nil, List.cons_append, List.nil_append, List.getElem?_cons_zero, List.getElem?_cons_succ, List.set_cons_zero, List.set_cons_succ, List.replicate_zero, List.replicate_succ, Nat.reduceSub, Nat.reduceAdd, if_true, if_false, Bool.false_eq_true, Bool.not_true, Bool.not_false, true_and, and_true]
    rw [if_app]
    simp only [set_app, drop_app, ret_app, asg_app, par_app, par3_app, put_app, next_app, cont_app, break_app, seq_set, seq_drop, seq_ret, seq_asg, seq_par, seq_par3, seq_put, seq_next, dOp, dUn, dVar, dC, dTup, dLst, dNil, dCons, dCall, dCB, dBM, isTy_str, dTB, dAndT, dOrT, dNotT, dAnd, dOr, dNot, dIf, dTru, truth, dChain, dSl, dPart, dNoPart,  dLc,  dRng1, dRng2,  dEnumT, dgName, dgTup, dgCons, dgNil, dDct0, dYes, dwipe, dstart, rAdd_int, rAdd_str, rAdd_tup, rSub_int, rMul_int, rMod_int, rFdiv_int, rNeg_int, rIs_non, rIsNot_non, rIs_bl, DD.isNonD,  rIx_str, rIx_tup, rIx_scr, rLen_str, rLen_tup, rLen_scr, rTuple_tup, rList_tup, rIn_s1, rIn_s2, rIn_s3, rMax2_int, rMin2_int, rInt1_int, rSl_str, rSl_tup, rev_app, revK_tup, seqX_app, seqK_tup, seqK_str, zip_app, zipK_tup, rLt_int, rLe_int, rGt_int, rGe_int, rLt_str, rLe_str, rGt_str, rGe_str, rOrd_encS, DD.rEq_int, DD.rEq_str, DD.rEq_bl, DD.rNe_int, DD.rNe_str, rEq_encS, rEq_encO, rEq_OS, atI_0, atI_1, atI_2, atI_3, atI_4, atI_5, atI_snoc, ob_some, gup_same, List.map_cons, List.map_nil, List.length_cons, List.length_nil, List.cons_append, List.nil_append, List.getElem?_cons_zero, List.getElem?_cons_succ, List.set_cons_zero, List.set_cons_succ, List.replicate_zero, List.replicate_succ, Nat.reduceSub, Nat.reduceAdd, if_true, if_false, Bool.false_eq_true, Bool.not_true, Bool.not_false, true_and, and_true]
    refine covered_use hW h1 h2 hs hG ?_
    simp only [set_app, drop_app, ret_app, asg_app, par_app, par3_app, put_app, next_app, cont_app, break_app, seq_set, seq_drop, seq_ret, seq_asg, seq_par, seq_par3, seq_put, seq_next, dOp, dUn, dVar, dC, dTup, dLst, dNil, dCons, dCall, dCB, dBM, isTy_str, dTB, dAndT, dOrT, dNotT, dAnd, dOr, dNot, dIf, dTru, truth, dChain, dSl, dPart, dNoPart,  dLc,  dRng1, dRng2,  dEnumT, dgName, dgTup, dgCons, dgNil, dDct0, dYes, dwipe, dstart, rAdd_int, rAdd_str, rAdd_tup, rSub_int, rMul_int, rMod_int, rFdiv_int, rNeg_int, rIs_non, rIsNot_non, rIs_bl, DD.isNonD,  rIx_str, rIx_tup, rIx_scr, rLen_str, rLen_tup, rLen_scr, rTuple_tup, rList_tup, rIn_s1, rIn_s2, rIn_s3, rMax2_int, rMin2_int, rInt1_int, rSl_str, rSl_tup, rev_app, revK_tup, seqX_app, seqK_tup, seqK_str, zip_app, zipK_tup, rLt_int, rLe_int, rGt_int, rGe_int, rLt_str, rLe_str, rGt_str, rGe_str, rOrd_encS, DD.rEq_int, DD.rEq_str, DD.rEq_bl, DD.rNe_int, DD.rNe_str, rEq_encS, rEq_encO, rEq_OS, atI_0, atI_1, atI_2, atI_3, atI_4, atI_5, atI_snoc, ob_some, gup_same, List.map_cons, List.map_nil, List.length_cons, List.length_nil, List.cons_append, List.nil_append, List.getElem?_cons_zero, List.getElem?_cons_succ, List.set_cons_zero, List.set_cons_succ, List.replicate_zero, List.replicate_succ, Nat.reduceSub, Nat.reduceAdd, if_true, if_false, Bool.false_eq_true, Bool.not_true, Bool.not_false, true_and, and_true]
    have ed : cms L b = (cms L b).take i ++ (m :: (cms L b).drop (i + 1)) := by
      have hi := (List.getElem?_eq_some_iff.mp he).1
      have hg := (List.getElem?_eq_some_iff.mp he).2
      conv => lhs; rw [← List.take_append_drop i (cms L b), List.drop_eq_getElem_cons hi, hg]
    by_cases h : covD L s m = true
    · simp only [h, if_true]
      rw [ed, List.find?_append, hn, Option.none_or, List.find?_cons, h] at hR
      exact hR
    · simp only [h, if_false]
      refine hF _ _ ⟨rfl, ?_, _, rfl⟩
      rw [take_snoc he, List.find?_append, hn, Option.none_or, List.find?_cons]
      simp [h]
  · rintro δ G' ⟨eG, hn, r, rfl⟩
    subst eG
    rw [List.length_map, List.take_length] at hn
    rw [hn] at hR
    exact ⟨hG2, hR⟩
theorem good_first_telling {P : Program} {w : World} {K : PySem.W.Frag} {mg : Str → Option Value} {base : Heap} (D0 : DefAt K mg "first_telling" (top 14)) (G_is_covered : Good P w K mg base "is_covered" ps_is_covered 1 sp_is_covered) : Good P w K mg base "first_telling" ps_first_telling 2 sp_first_telling :=
  good_of D0 sc_first_telling t_first_telling bind_first_telling len_first_telling (fun f cdv A outer s H E hr => der_first_telling G_is_covered f cdv A outer s H E hr) pure_first_telling
theorem first_use {L : List Deed} {b : Bool} {p p2 : Addr} {s : Stp} {G : DG} {Q : DK} {RE : DX} (hW : Wf L) (hs : s ∈ lets L) (hG : G p = some (.dct (dictS (pls L)))) (hG2 : G p2 = some (.lst ((cms L b).map M.encD))) (q : Q (encT (tell L b s)) G) : sp_first_telling [.ref p, .ref p2, encS s] G Q RE := ⟨L, b, p, p2, s, rfl, hW, hs, hG, hG2, q⟩
def PreT (ds : List D) (L : List Deed) (s : Stp) (b : Bool) : Prop := ds = [D.tup (L.map M.encD), encS s, .str (kin b)] ∧ Wf L ∧ L.length ≤ 1000 ∧ s ∈ lets L
def rel_teller (ds : List D) (d : D) : Prop := ∃ L s b, PreT ds L s b ∧ d = tolds L b s
def sp_teller : DSp := spP rel_teller
abbrev N_teller : List Str := ["deeds", "stamp", "kind", "found"]
abbrev ps_teller : List Str := ["deeds", "stamp", "kind"]
def t_teller : DTS :=
  (dSeq (dSet 3 (dCall sp_first_telling ex0 (dCons (dCall sp_places_of ex0 (dCons (dVar 0) dNil)) (dCons (dCall sp_counting_marks ex0 (dCons (dVar 0) (dCons (dVar 2) dNil))) (dCons (dVar 1) dNil))))) (dSeq (dIfS (dTB (dOp rIs (dVar 3) (dC .non))) (dRet (dC .non)) dNext) (dRet (dOp rIx (dVar 3) (dC (.int 1))))))
theorem sc_teller : FnScope N_teller ps_teller (defScope (top 16)) := ⟨rfl, rfl, rfl, by decide +kernel, rfl, by decide +kernel, by decide +kernel⟩
theorem der_teller {P : Program} {w : World} {K : PySem.W.Frag} {mg : Str → Option Value} {base : Heap} (G_counting_marks : Good P w K mg base "counting_marks" ps_counting_marks 2 sp_counting_marks) (G_first_telling : Good P w K mg base "first_telling" ps_first_telling 2 sp_first_telling) (G_places_of : Good P w K mg base "places_of" ps_places_of 2 sp_places_of) (f : Addr) (cdv : Value) (A : Around) (outer : List Env) (s : Shared) (H : Hp) (E : XK)
    (hr : Room 2 (A.deeper (envOfC "teller" (defScope (top 16)) s.heap.objs.size f cdv))) :
    DSs (cxOf CX0 P w K mg base N_teller "teller" (defScope (top 16)) f cdv A outer s H E).nox (Rg.top K w) (defBody (top 16)) t_teller := by
  have S := sc_teller
  exact (dss_cons (ds_set (i := 3) S.nd rfl (by first | exact Or.inl rfl | exact Or.inr rfl) (de_callG G_first_telling hr rfl (da_cons (de_callG G_places_of hr rfl (da_cons (de_var (pv 0)) da_nil)) (da_cons (de_callG G_counting_marks hr rfl (da_cons (de_var (pv 0)) (da_cons (de_var (pv 2)) da_nil))) (da_cons (de_var (pv 1)) da_nil)))))
    (dss_cons (ds_if (dt_cmp op_isD (de_var (pv 3)) de_non (by rfl)) (dss_one (ds_ret de_non)) dss_nil)
    (dss_one (ds_ret (de_ix (ix_D hr.units) (de_var (pv 3)) de_int)))))
theorem bind_teller (kV doc pm : Value) (an : Option Addr) (cdv ct : Value) (us : List Value) (hl : us.length = ps_teller.length) : bindArgs (PySem.W.fnOf "teller" "teller" (defArgs (top 16)) (defBody (top 16)) (defScope (top 16)) .none kV doc pm an cdv ct) ⟨us, []⟩ = pure (ps_teller.zip us) := match us, hl with | [_, _, _], _ => rfl
theorem len_teller : ∀ ds d, rel_teller ds d → ds.length = ps_teller.length := by
  rintro ds d ⟨L, s, b, ⟨rfl, _⟩, _⟩; rfl
theorem pure_teller : ∀ ds d, rel_teller ds d → t_teller { nx := fun _ _ => .non = d, rt := fun d' _ => d' = d } (dstart N_teller ds) g0 := by
  rintro ds d ⟨L, s, b, ⟨rfl, hW, hL, hs⟩, rfl⟩
  simp only [t_teller, N_teller, set_app, drop_app, ret_app, asg_app, par_app, par3_app, put_app, next_app, cont_app, break_app, seq_set, seq_drop, seq_ret, seq_asg, seq_par, seq_par3, seq_put, seq_next, dOp, dUn, dVar, dC, dTup, dLst, dNil, dCons, dCall, dCB, dBM, isTy_str, dTB, dAndT, dOrT, dNotT, dAnd, dOr, dNot, dIf, dTru, truth, dChain, dSl, dPart, dNoPart,  dLc,  dRng1, dRng2,  dEnumT, dgName, dgTup, dgCons, dgNil, dDct0, dYes, dwipe, dstart, rAdd_int, rAdd_str, rAdd_tup, rSub_int, rMul_int, rMod_int, rFdiv_int, rNeg_int, rIs_non, rIsNot_non, rIs_bl, DD.isNonD,  rIx_str, rIx_tup, rIx_scr, rLen_str, rLen_tup, rLen_scr, rTuple_tup, rList_tup, rIn_s1, rIn_s2, rIn_s3, rMax2_int, rMin2_int, rInt1_int, rSl_str, rSl_tup, rev_app, revK_tup, seqX_app, seqK_tup, seqK_str, zip_app, zipK_tup, rLt_int, rLe_int, rGt_int, rGe_int, rLt_str, rLe_str, rGt_str, rGe_str, rOrd_encS, DD.rEq_int, DD.rEq_str, DD.rEq_bl, DD.rNe_int, DD.rNe_str, rEq_encS, rEq_encO, rEq_OS, atI_0, atI_1, atI_2, atI_3, atI_4, atI_5, atI_snoc, ob_some, gup_same, List.map_cons, List.map_nil, List.length_cons, List.length_nil, List.cons_append, List.nil_append, List.getElem?_cons_zero, List.getElem?_cons_succ, List.set_cons_zero, List.set_cons_succ, List.replicate_zero, List.replicate_succ, Nat.reduceSub, Nat.reduceAdd, if_true, if_false, Bool.false_eq_true, Bool.not_true, Bool.not_false, true_and, and_true]
  refine places_use hW hL fun p hp => cms_use hW hL fun p2 hp2 => ?_
  have hG : gup (gup g0 p (.dct (dictS (pls L)))) p2 (.lst ((cms L b).map M.encD)) p = some (.dct (dictS (pls L))) := by
    rw [gup_ne (fun z => by rw [← z, gup_same] at hp2; cases hp2), gup_same]
  refine first_use hW hs hG gup_same ?_
  rw [seq_if]
  simp only [set_app, drop_app, ret_app, asg_app, par_app, par3_app, put_app, next_app, cont_app, break_app, seq_set, seq_drop, seq_ret, seq_asg, seq_par, seq_par3, seq_put, seq_next, dOp, dUn, dVar, dC, dTup, dLst, dNil, dCons, dCall, dCB, dBM, isTy_str, dTB, dAndT, dOrT, dNotT, dAnd, dOr, dNot, dIf, dTru, truth, dChain, dSl, dPart, dNoPart,  dLc,  dRng1, dRng2,  dEnumT, dgName, dgTup, dgCons, dgNil, dDct0, dYes, dwipe, dstart, rAdd_int, rAdd_str, rAdd_tup, rSub_int, rMul_int, rMod_int, rFdiv_int, rNeg_int, rIs_non, rIsNot_non, rIs_bl, DD.isNonD,  rIx_str, rIx_tup, rIx_scr, rLen_str, rLen_tup, rLen_scr, rTuple_tup, rList_tup, rIn_s1, rIn_s2, rIn_s3, rMax2_int, rMin2_int, rInt1_int, rSl_str, rSl_tup, rev_app, revK_tup, seqX_app, seqK_tup, seqK_str, zip_app, zipK_tup, rLt_int, rLe_int, rGt_int, rGe_int, rLt_str, rLe_str, rGt_str, rGe_str, rOrd_encS, DD.rEq_int, DD.rEq_str, DD.rEq_bl, DD.rNe_int, DD.rNe_str, rEq_encS, rEq_encO, rEq_OS, atI_0, atI_1, atI_2, atI_3, atI_4, atI_5, atI_snoc, ob_some, gup_same, List.map_cons, List.map_nil, List.length_cons, List.length_nil, List.cons_append, List.nil_append, List.getElem?_cons_zero, List.getElem?_cons_succ, List.set_cons_zero, List.set_cons_succ, List.replicate_zero, List.replicate_succ, Nat.reduceSub, Nat.reduceAdd, if_true, if_false, Bool.false_eq_true, Bool.not_true, Bool.not_false, true_and, and_true]
  unfold tolds
  cases h : tell L b s with
  | none => simp only [encT, isNonD, if_true]
  | some m =>
    obtain ⟨q, eq, q1, q0⟩ := atI_at1 (d := m)
    simp only [encT, eq, isNonD, Bool.false_eq_true, if_false, rIx_tup, q1, ob_some]
theorem good_teller {P : Program} {w : World} {K : PySem.W.Frag} {mg : Str → Option Value} {base : Heap} (D0 : DefAt K mg "teller" (top 16)) (G_counting_marks : Good P w K mg base "counting_marks" ps_counting_marks 2 sp_counting_marks) (G_first_telling : Good P w K mg base "first_telling" ps_first_telling 2 sp_first_telling) (G_places_of : Good P w K mg base "places_of" ps_places_of 2 sp_places_of) : Good P w K mg base "teller" ps_teller 3 sp_teller :=
  goodP D0 sc_teller t_teller bind_teller len_teller (fun f cdv A outer s H E hr => der_teller G_counting_marks G_first_telling G_places_of f cdv A outer s H E hr) pure_teller
theorem bare_mem (b : Bool) : (kin b, bare b) ∈ tab_BARE := by
  cases b
  · exact List.mem_cons_of_mem _ List.mem_cons_self
  · exact List.mem_cons_self
def rel_value (ds : List D) (d : D) : Prop := ∃ L s b, PreT ds L s b ∧ d = vals L b s
def sp_value : DSp := spP rel_value
abbrev N_value : List Str := ["deeds", "stamp", "kind", "found"]
abbrev ps_value : List Str := ["deeds", "stamp", "kind"]
def t_value : DTS :=
  (dSeq (dSet 3 (dCall sp_first_telling ex0 (dCons (dCall sp_places_of ex0 (dCons (dVar 0) dNil)) (dCons (dCall sp_counting_marks ex0 (dCons (dVar 0) (dCons (dVar 2) dNil))) (dCons (dVar 1) dNil))))) (dSeq (dIfS (dTB (dOp rIs (dVar 3) (dC .non))) (dRet (dTab tab_BARE (dVar 2))) dNext) (dRet (dOp rIx (dVar 3) (dC (.int 5))))))
theorem sc_value : FnScope N_value ps_value (defScope (top 17)) := ⟨rfl, rfl, rfl, by decide +kernel, rfl, by decide +kernel, by decide +kernel⟩
theorem der_value {P : Program} {w : World} {K : PySem.W.Frag} {mg : Str → Option Value} {base : Heap} (c_BARE : GlTab K w mg "BARE" tab_BARE) (G_counting_marks : Good P w K mg base "counting_marks" ps_counting_marks 2 sp_counting_marks) (G_first_telling : Good P w K mg base "first_telling" ps_first_telling 2 sp_first_telling) (G_places_of : Good P w K mg base "places_of" ps_places_of 2 sp_places_of) (f : Addr) (cdv : Value) (A : Around) (outer : List Env) (s : Shared) (H : Hp) (E : XK)
    (hr : Room 2 (A.deeper (envOfC "value" (defScope (top 17)) s.heap.objs.size f cdv))) :
    DSs (cxOf CX0 P w K mg base N_value "value" (defScope (top 17)) f cdv A outer s H E).nox (Rg.top K w) (defBody (top 17)) t_value := by
  have S := sc_value
  exact (dss_cons (ds_set (i := 3) S.nd rfl (by first | exact Or.inl rfl | exact Or.inr rfl) (de_callG G_first_telling hr rfl (da_cons (de_callG G_places_of hr rfl (da_cons (de_var (pv 0)) da_nil)) (da_cons (de_callG G_counting_marks hr rfl (da_cons (de_var (pv 0)) (da_cons (de_var (pv 2)) da_nil))) (da_cons (de_var (pv 1)) da_nil)))))
    (dss_cons (ds_if (dt_cmp op_isD (de_var (pv 3)) de_non (by rfl)) (dss_one (ds_ret (de_tab c_BARE rfl (de_var (pv 2))))) dss_nil)
    (dss_one (ds_ret (de_ix (ix_D hr.units) (de_var (pv 3)) de_int)))))
theorem bind_value (kV doc pm : Value) (an : Option Addr) (cdv ct : Value) (us : List Value) (hl : us.length = ps_value.length) : bindArgs (PySem.W.fnOf "value" "value" (defArgs (top 17)) (defBody (top 17)) (defScope (top 17)) .none kV doc pm an cdv ct) ⟨us, []⟩ = pure (ps_value.zip us) := match us, hl with | [_, _, _], _ => rfl
theorem len_value : ∀ ds d, rel_value ds d → ds.length = ps_value.length := by
  rintro ds d ⟨L, s, b, ⟨rfl, _⟩, _⟩; rfl
theorem pure_value : ∀ ds d, rel_value ds d → t_value { nx := fun _ _ => .non = d, rt := fun d' _ => d' = d } (dstart N_value ds) g0 := by
  rintro ds d ⟨L, s, b, ⟨rfl, hW, hL, hs⟩, rfl⟩
  simp only [t_value, N_value, set_app, drop_app, ret_app, asg_app, par_app, par3_app, put_app, next_app, cont_app, break_app, seq_set, seq_drop, seq_ret, seq_asg, seq_par, seq_par3, seq_put, seq_next, dOp, dUn, dVar, dC, dTup, dLst, dNil, dCons, dCall, dCB, dBM, isTy_str, dTB, dAndT, dOrT, dNotT, dAnd, dOr, dNot, dIf, dTru, truth, dChain, dSl, dPart, dNoPart,  dLc,  dRng1, dRng2,  dEnumT, dgName, dgTup, dgCons, dgNil, dDct0, dYes, dwipe, dstart, rAdd_int, rAdd_str, rAdd_tup, rSub_int, rMul_int, rMod_int, rFdiv_int, rNeg_int, rIs_non, rIsNot_non, rIs_bl, DD.isNonD,  rIx_str, rIx_tup, rIx_scr, rLen_str, rLen_tup, rLen_scr, rTuple_tup, rList_tup, rIn_s1, rIn_s2, rIn_s3, rMax2_int, rMin2_int, rInt1_int, rSl_str, rSl_tup, rev_app, revK_tup, seqX_app, seqK_tup, seqK_str, zip_app, zipK_tup, rLt_int, rLe_int, rGt_int, rGe_int, rLt_str, rLe_str, rGt_str, rGe_str, rOrd_encS, DD.rEq_int, DD.rEq_str, DD.rEq_bl, DD.rNe_int, DD.rNe_str, rEq_encS, rEq_encO, rEq_OS, atI_0, atI_1, atI_2, atI_3, atI_4, atI_5, atI_snoc, ob_some, gup_same, List.map_cons, List.map_nil, List.length_cons, List.length_nil, List.cons_append, List.nil_append, List.getElem?_cons_zero, List.getElem?_cons_succ, List.set_cons_zero, List.set_cons_succ, List.replicate_zero, List.replicate_succ, Nat.reduceSub, Nat.reduceAdd, if_true, if_false, Bool.false_eq_true, Bool.not_true, Bool.not_false, true_and, and_true]
  refine places_use hW hL fun p hp => cms_use hW hL fun p2 hp2 => ?_
  have hG : gup (gup g0 p (.dct (dictS (pls L)))) p2 (.lst ((cms L b).map M.encD)) p = some (.dct (dictS (pls L))) := by
    rw [gup_ne (fun z => by rw [← z, gup_same] at hp2; cases hp2), gup_same]
  refine first_use hW hs hG gup_same ?_
  rw [seq_if]
  simp only [set_app, drop_app, ret_app, asg_app, par_app, par3_app, put_app, next_app, cont_app, break_app, seq_set, seq_drop, seq_ret, seq_asg, seq_par, seq_par3, seq_put, seq_next, dOp, dUn, dVar, dC, dTup, dLst, dNil, dCons, dCall, dCB, dBM, isTy_str, dTB, dAndT, dOrT, dNotT, dAnd, dOr, dNot, dIf, dTru, truth, dChain, dSl, dPart, dNoPart,  dLc,  dRng1, dRng2,  dEnumT, dgName, dgTup, dgCons, dgNil, dDct0, dYes, dwipe, dstart, rAdd_int, rAdd_str, rAdd_tup, rSub_int, rMul_int, rMod_int, rFdiv_int, rNeg_int, rIs_non, rIsNot_non, rIs_bl, DD.isNonD,  rIx_str, rIx_tup, rIx_scr, rLen_str, rLen_tup, rLen_scr, rTuple_tup, rList_tup, rIn_s1, rIn_s2, rIn_s3, rMax2_int, rMin2_int, rInt1_int, rSl_str, rSl_tup, rev_app, revK_tup, seqX_app, seqK_tup, seqK_str, zip_app, zipK_tup, rLt_int, rLe_int, rGt_int, rGe_int, rLt_str, rLe_str, rGt_str, rGe_str, rOrd_encS, DD.rEq_int, DD.rEq_str, DD.rEq_bl, DD.rNe_int, DD.rNe_str, rEq_encS, rEq_encO, rEq_OS, atI_0, atI_1, atI_2, atI_3, atI_4, atI_5, atI_snoc, ob_some, gup_same, List.map_cons, List.map_nil, List.length_cons, List.length_nil, List.cons_append, List.nil_append, List.getElem?_cons_zero, List.getElem?_cons_succ, List.set_cons_zero, List.set_cons_succ, List.replicate_zero, List.replicate_succ, Nat.reduceSub, Nat.reduceAdd, if_true, if_false, Bool.false_eq_true, Bool.not_true, Bool.not_false, true_and, and_true]
  unfold vals
  cases h : tell L b s with
  | none =>
    simp only [encT, isNonD, if_true]
    exact ⟨bare b, bare_mem b, rfl⟩
  | some m =>
    obtain ⟨h1, h2⟩ := tell_mem h
    cases m with
    | mark st b' f e v => simp only [encT, encD_mark, isNonD, Bool.false_eq_true, if_false, rIx_tup, atI_5, ob_some, M.valOf]
    | _ => cases h2
theorem good_value {P : Program} {w : World} {K : PySem.W.Frag} {mg : Str → Option Value} {base : Heap} (D0 : DefAt K mg "value" (top 17)) (c_BARE : GlTab K w mg "BARE" tab_BARE) (G_counting_marks : Good P w K mg base "counting_marks" ps_counting_marks 2 sp_counting_marks) (G_first_telling : Good P w K mg base "first_telling" ps_first_telling 2 sp_first_telling) (G_places_of : Good P w K mg base "places_of" ps_places_of 2 sp_places_of) : Good P w K mg base "value" ps_value 3 sp_value :=
  goodP D0 sc_value t_value bind_value len_value (fun f cdv A outer s H E hr => der_value c_BARE G_counting_marks G_first_telling G_places_of f cdv A outer s H E hr) pure_value
end K

namespace K
open PySem PySem.Spec PyProof.Rows L2 DD M
/-! ### _law_covers -/
end K

namespace K
open PySem PySem.Spec PyProof.Rows L2 DD M
/-! ### spans -/
def rel_spans (ds : List D) (d : D) : Prop := ∃ L, PreL1 ds L ∧ d = .tup ((spansM L).map encSp)
def sp_spans : DSp := spP rel_spans
abbrev N_spans : List Str := ["deeds", "places", "letters", "marks", "found", "stamp", "values", "kind", "mark"]
abbrev ps_spans : List Str := ["deeds"]
def t_spans : DTS :=
  (dSeq (dPar 1 2 (dCons (dCall sp_places_of ex0 (dCons (dVar 0) dNil)) (dCons (dCall sp_letters_of ex0 (dCons (dVar 0) dNil)) dNil))) (dSeq (dSet 3 (dCB rDict (dCons (dLc (dSeqX (dC cst_KINDS)) (dgName 7) dYes (dTup (dCons (dVar 7) (dCons (dCall sp_counting_marks ex0 (dCons (dVar 0) (dCons (dVar 7) dNil))) dNil))) [7]) dNil))) (dSeq (dSet 4 (dLst dNil)) (dSeq (dFor (dSeqX (dCall sp_shown ex0 (dCons (dVar 0) dNil))) (dgName 5) (dSeq (dSet 6 (dTup dNil)) (dSeq (dFor (dSeqX (dC cst_KINDS)) (dgName 7) (dSeq (dSet 8 (dCall sp_first_telling ex0 (dCons (dVar 1) (dCons (dOp rIx (dVar 3) (dVar 7)) (dCons (dVar 5) dNil))))) (dSet 6 (dOp rAdd (dVar 6) (dTup (dCons (dIf (dTB (dOp rIs (dVar 8) (dC .non))) (dTab tab_BARE (dVar 7)) (dOp rIx (dVar 8) (dC (.int 5)))) dNil)))))) (dIfS (dAndT (dTru (dVar 4)) (dTB (dOp rEq (dSl rSl (dOp rIx (dVar 4) (dUn rNeg (dC (.int 1)))) (dPart (dC (.int 1))) dNoPart) (dVar 6)))) (dPut rPut (dVar 4) (dUn rNeg (dC (.int 1))) (dOp rAdd (dTup (dCons (dOp rAdd (dOp rIx (dOp rIx (dVar 4) (dUn rNeg (dC (.int 1)))) (dC (.int 0))) (dOp rIx (dVar 2) (dVar 5))) dNil)) (dVar 6))) (dDrop (dBM "list" rAppend (dVar 4) (dCons (dOp rAdd (dTup (dCons (dOp rIx (dVar 2) (dVar 5)) dNil)) (dVar 6)) dNil))))))) (dRet (dCB rTuple (dCons (dVar 4) dNil)))))))
theorem sc_spans : FnScope N_spans ps_spans (defScope (top 18)) := ⟨rfl, rfl, rfl, by decide +kernel, rfl, by decide +kernel, by decide +kernel⟩
theorem der_spans {P : Program} {w : World} {K : PySem.W.Frag} {mg : Str → Option Value} {base : Heap} (g_dict : mg "dict" = none) (g_tuple : mg "tuple" = none) (c_BARE : GlTab K w mg "BARE" tab_BARE) (c_KINDS : GlC K mg "KINDS" cst_KINDS) (G_counting_marks : Good P w K mg base "counting_marks" ps_counting_marks 2 sp_counting_marks) (G_first_telling : Good P w K mg base "first_telling" ps_first_telling 2 sp_first_telling) (G_letters_of : Good P w K mg base "letters_of" ps_letters_of 1 sp_letters_of) (G_places_of : Good P w K mg base "places_of" ps_places_of 2 sp_places_of) (G_shown : Good P w K mg base "shown" ps_shown 3 sp_shown) (f : Addr) (cdv : Value) (A : Around) (outer : List Env) (s : Shared) (H : Hp) (E : XK)
    (hr : Room 3 (A.deeper (envOfC "spans" (defScope (top 18)) s.heap.objs.size f cdv))) :
    DSs (cxOf CX0 P w K mg base N_spans "spans" (defScope (top 18)) f cdv A outer s H E).nox (Rg.top K w) (defBody (top 18)) t_spans := by
  have S := sc_spans
  exact (dss_cons (ds_par (i := 1) (j := 2) rfl S.nd rfl rfl (by decide) rfl rfl (da_cons (de_callG G_places_of hr rfl (da_cons (de_var (pv 0)) da_nil)) (da_cons (de_callG G_letters_of hr rfl (da_cons (de_var (pv 0)) da_nil)) da_nil)) rfl)
    (dss_cons (ds_set (i := 3) S.nd rfl (by first | exact Or.inl rfl | exact Or.inr rfl) (de_callTy (call_dictD rfl hr.units) rfl g_dict rfl (da_cons (de_lc (own := [("kind", 7)]) rfl S.nd (di_seq (de_glob rfl c_KINDS)) (show BlkOk N_spans (defScope (top 18)) _ _ from ⟨rfl, by decide +kernel, by decide +kernel, by decide +kernel, by decide +kernel⟩) (fun _ _ _ _ _ => (dg_name (pg_name (i := 7) S.nd rfl (by first | exact Or.inl rfl | exact Or.inr rfl)) (by decide) (by decide))) (fun _ _ _ _ _ => dts_nil) (fun _ _ _ _ _ => (de_tup (da_cons (de_var (pv 7)) (da_cons (de_callG G_counting_marks hr rfl (da_cons (de_var (pv 0)) (da_cons (de_var (pv 7)) da_nil))) da_nil))))) da_nil)))
    (dss_cons (ds_set (i := 4) S.nd rfl (by first | exact Or.inl rfl | exact Or.inr rfl) (de_lst da_nil))
    (dss_cons (ds_for (vs := [5]) PassesOwn.never rfl (di_seq (de_callG G_shown hr rfl (da_cons (de_var (pv 0)) da_nil))) (dg_name (pg_name (i := 5) S.nd rfl (by first | exact Or.inl rfl | exact Or.inr rfl)) (by decide) (by decide)) (dss_cons (ds_set (i := 6) S.nd rfl (by first | exact Or.inl rfl | exact Or.inr rfl) (de_tup da_nil))
    (dss_cons (ds_for (vs := [7]) PassesOwn.never rfl (di_seq (de_glob rfl c_KINDS)) (dg_name (pg_name (i := 7) S.nd rfl (by first | exact Or.inl rfl | exact Or.inr rfl)) (by decide) (by decide)) (dss_cons (ds_set (i := 8) S.nd rfl (by first | exact Or.inl rfl | exact Or.inr rfl) (de_callG G_first_telling hr rfl (da_cons (de_var (pv 1)) (da_cons (de_ix (ix_D hr.units) (de_var (pv 3)) (de_var (pv 7))) (da_cons (de_var (pv 5)) da_nil)))))
    (dss_one (ds_set (i := 6) S.nd rfl (by first | exact Or.inl rfl | exact Or.inr rfl) (de_op op_addD (de_var (pv 6)) (de_tup (da_cons (de_if (dt_cmp op_isD (de_var (pv 8)) de_non (by rfl)) (de_tab c_BARE rfl (de_var (pv 7))) (de_ix (ix_D hr.units) (de_var (pv 8)) de_int)) da_nil)))))))
    (dss_one (ds_if (dt_w (dw_and (dt_truth (de_var (pv 4))) (dw_and1 (dt_cmp (op_eqD hr.units) (de_slice sl_D (de_ix (ix_D hr.units) (de_var (pv 4)) (de_un op_negD de_int)) (do_some de_int) do_none) (de_var (pv 6)) (by rfl))))) (dss_one (ds_put (de_var (pv 4)) (de_un op_negD de_int) (de_op op_addD (de_tup (da_cons (de_op op_addD (de_ix (ix_D hr.units) (de_ix (ix_D hr.units) (de_var (pv 4)) (de_un op_negD de_int)) de_int) (de_ix (ix_D hr.units) (de_var (pv 2)) (de_var (pv 5)))) da_nil)) (de_var (pv 6))) (set_D hr.units))) (dss_one (ds_expr (de_bm F.plainAttrs_list F.slot_list_append F.type_list_append mt_appendD (de_var (pv 4)) (da_cons (de_op op_addD (de_tup (da_cons (de_ix (ix_D hr.units) (de_var (pv 2)) (de_var (pv 5))) da_nil)) (de_var (pv 6))) da_nil)))))))))
    (dss_one (ds_ret (de_callTy call_tupleD rfl g_tuple rfl (da_cons (de_var (pv 4)) da_nil))))))))
theorem bind_spans (kV doc pm : Value) (an : Option Addr) (cdv ct : Value) (us : List Value) (hl : us.length = ps_spans.length) : bindArgs (PySem.W.fnOf "spans" "spans" (defArgs (top 18)) (defBody (top 18)) (defScope (top 18)) .none kV doc pm an cdv ct) ⟨us, []⟩ = pure (ps_spans.zip us) := match us, hl with | [_], _ => rfl
theorem len_spans : ∀ ds d, rel_spans ds d → ds.length = ps_spans.length := by
  rintro ds d ⟨L, ⟨rfl, _⟩, _⟩; rfl
def mkD2 (a1 a2 : Addr) : List (D × D) := DD.putAll [(.str "bold", .ref a1), (.str "link", .ref a2)] []
structure Sg (L : List Deed) (pp pq pm a1 a2 : Addr) (G : DG) : Prop where
  pp : G pp = some (.dct (dictS (pls L)))
  pq : G pq = some (.dct (dictS (wrs L)))
  pm : G pm = some (.dct (mkD2 a1 a2))
  a1 : G a1 = some (.lst ((cms L true).map M.encD))
  a2 : G a2 = some (.lst ((cms L false).map M.encD))
theorem Sg.alloc {L : List Deed} {pp pq pm a1 a2 p : Addr} {G : DG} {o : O} (h : Sg L pp pq pm a1 a2 G) (hp : G p = none) : Sg L pp pq pm a1 a2 (gup G p o) := by
  have ne : ∀ {a o'}, G a = some o' → a ≠ p := fun e z => by rw [z, hp] at e; cases e
  exact ⟨by rw [gup_ne (ne h.pp)]; exact h.pp, by rw [gup_ne (ne h.pq)]; exact h.pq, by rw [gup_ne (ne h.pm)]; exact h.pm, by rw [gup_ne (ne h.a1)]; exact h.a1, by rw [gup_ne (ne h.a2)]; exact h.a2⟩
theorem mk_get (a1 a2 : Addr) (b : Bool) : dgetE (keyD (.str (kin b))) (mkD2 a1 a2) = some (.ref (if b = true then a1 else a2)) := by
  have e : ¬ (Str.ofString "bold" = Str.ofString "link") := by decide +kernel
  cases b
  · show dgetE (.text (Str.ofString "link")) (mkD2 a1 a2) = _
    unfold mkD2 DD.putAll
    simp only [List.foldl_cons, List.foldl_nil, dputE, keyD, NestedKey.text.injEq, dgetE]
    simp [e, dgetE, keyD]
  · show dgetE (.text (Str.ofString "bold")) (mkD2 a1 a2) = _
    unfold mkD2 DD.putAll
    simp only [List.foldl_cons, List.foldl_nil, dputE, keyD, NestedKey.text.injEq, dgetE]
    simp [e, dgetE, keyD]
theorem Sg.put {L : List Deed} {pp pq pm a1 a2 p : Addr} {G : DG} {o : O} (h : Sg L pp pq pm a1 a2 G) (n : pp ≠ p ∧ pq ≠ p ∧ pm ≠ p ∧ a1 ≠ p ∧ a2 ≠ p) : Sg L pp pq pm a1 a2 (gup G p o) :=
  ⟨by rw [gup_ne n.1]; exact h.pp, by rw [gup_ne n.2.1]; exact h.pq, by rw [gup_ne n.2.2.1]; exact h.pm, by rw [gup_ne n.2.2.2.1]; exact h.a1, by rw [gup_ne n.2.2.2.2]; exact h.a2⟩
theorem Sg.ne {L : List Deed} {pp pq pm a1 a2 p : Addr} {G : DG} (h : Sg L pp pq pm a1 a2 G) (hp : G p = none) : pp ≠ p ∧ pq ≠ p ∧ pm ≠ p ∧ a1 ≠ p ∧ a2 ≠ p := by
  have ne : ∀ {a o'}, G a = some o' → a ≠ p := fun e z => by rw [z, hp] at e; cases e
  exact ⟨ne h.pp, ne h.pq, ne h.pm, ne h.a1, ne h.a2⟩
theorem kind_use {L : List Deed} {b : Bool} {s : Stp} {pp pq pm a1 a2 : Addr} {G : DG} {Δ : D → DSt} {C : D → D → DG → Prop} (hW : Wf L) (hs : s ∈ lets L) (S : Sg L pp pq pm a1 a2 G)
    (hΔ : ∀ (d : D) (G : DG) (Q : DK), dVar 7 (Δ d) G Q = Q (.str (kin b)) G) (hC : ∀ d, C d (vals L b s) G) :
    DD.rIx (.ref pm) (.str (kin b)) G fun d G1 => sp_first_telling [.ref pp, d, encS s] G1 (fun d G1 => if DD.isNonD d = true then dTab tab_BARE (dVar 7) (Δ d) G1 (fun v G1 => C d v G1) else DD.rIx d (.int 5) G1 fun v G1 => C d v G1) ex0 := by
  rw [rIx_dct S.pm, mk_get, ob_some]
  refine ⟨⟨rfl, by show NestedKey.depth (.text _) ≤ 8; simp [NestedKey.depth]⟩, ?_⟩
  refine first_use (b := b) hW hs S.pp (by cases b; exact S.a2; exact S.a1) ?_
  have hC := hC (encT (tell L b s))
  unfold vals at hC
  cases h : tell L b s with
  | none =>
    rw [h] at hC
    simp only [encT, DD.isNonD, if_true]
    show dVar 7 (Δ .non) G _
    rw [hΔ]
    exact ⟨bare b, bare_mem b, hC⟩
  | some m =>
    rw [h] at hC
    obtain ⟨h1, h2⟩ := tell_mem h
    cases m with
    | mark st b' f e v =>
      simp only [encT, encD_mark, DD.isNonD, Bool.false_eq_true, if_false, rIx_tup, atI_5, ob_some]
      exact hC
    | _ => cases h2
theorem cutE {α : Type} {x : α} {xs : List α} : DD.cut (x :: xs) (some 1) none = xs := by
  unfold DD.cut
  have e : HT.sIx (x :: xs).length 0 (some 1) = 1 := by
    have := HT.sIx_nat (x :: xs).length 0 1
    rw [List.length_cons] at this ⊢
    exact this.trans (by omega)
  rw [e, HT.sIx_none, List.drop_one, List.tail_cons, List.length_cons]
  exact List.take_of_length_le (by omega)
theorem flat_vv (a b : Val) : flat (.tup [encV a, encV b]) = true := by
  show (flat (encV a) && (flat (encV b) && true)) = true
  rw [flat_encV, flat_encV]
  rfl
theorem dp_vv (a b : Val) : dpP (toP (.tup [encV a, encV b])) ≤ 60 := by
  show max (dpP (toP (encV a))) (max (dpP (toP (encV b))) 0) + 1 ≤ 60
  rw [dp_encV, dp_encV]
  decide
theorem put_last {G : DG} {a : Addr} {xs : List D} {x y : D} {F : DG → Prop} (h : G a = some (.lst (xs ++ [x]))) (q : F (gup G a (.lst (xs ++ [y])))) : DD.rPut (.ref a) (.int (-1)) y G F := by
  rw [rPut_lst h]
  have e : ixN (xs ++ [x]).length (-1) = some xs.length := by
    unfold ixN
    rw [if_neg (by omega), List.length_append]
    have : -(((xs.length + [x].length : Nat)) : Int) ≤ -1 := by show -((xs.length + 1 : Nat) : Int) ≤ -1; omega
    rw [if_pos this]
    congr 1
    show (-1 + ((xs.length + 1 : Nat) : Int)).toNat = xs.length
    omega
  rw [e, ob_some]
  have : (xs ++ [x]).set xs.length y = xs ++ [y] := by simp
  rw [this]
  exact q
theorem pure_spans : ∀ ds d, rel_spans ds d → t_spans { nx := fun _ _ => .non = d, rt := fun d' _ => d' = d } (dstart N_spans ds) g0 := by
  rintro ds d ⟨L, ⟨rfl, hW, hL⟩, rfl⟩
  simp only [t_spans, N_spans, cst_KINDS, set_app, drop_app, ret_app, asg_app, par_app, par3_app, put_app, next_app, cont_app, break_app, seq_set, seq_drop, seq_ret, seq_asg, seq_par, seq_par3, seq_put, seq_next, dOp, dUn, dVar, dC, dTup, dLst, dNil, dCons, dCall, dCB, dBM, isTy_str, dTB, dAndT, dOrT, dNotT, dAnd, dOr, dNot, dIf, dTru, truth, dChain, dSl, dPart, dNoPart,  dLc,  dRng1, dRng2,  dEnumT, dgName, dgTup, dgCons, dgNil, dDct0, dYes, dwipe, dstart, rAdd_int, rAdd_str, rAdd_tup, rSub_int, rMul_int, rMod_int, rFdiv_int, rNeg_int, rIs_non, rIsNot_non, rIs_bl, DD.isNonD,  rIx_str, rIx_tup, rIx_scr, rLen_str, rLen_tup, rLen_scr, rTuple_tup, rList_tup, rIn_s1, rIn_s2, rIn_s3, rMax2_int, rMin2_int, rInt1_int, rSl_str, rSl_tup, rev_app, revK_tup, seqX_app, seqK_tup, seqK_str, zip_app, zipK_tup, rLt_int, rLe_int, rGt_int, rGe_int, rLt_str, rLe_str, rGt_str, rGe_str, rOrd_encS, DD.rEq_int, DD.rEq_str, DD.rEq_bl, DD.rNe_int, DD.rNe_str, rEq_encS, rEq_encO, rEq_OS, atI_0, atI_1, atI_2, atI_3, atI_4, atI_5, atI_snoc, ob_some, gup_same, List.map_cons, List.map_nil, List.length_cons, List.length_nil, List.cons_append, List.nil_append, List.getElem?_cons_zero, List.getElem?_cons_succ, List.set_cons_zero, List.set_cons_succ, List.replicate_zero, List.replicate_succ, Nat.reduceSub, Nat.reduceAdd, if_true, if_false, Bool.false_eq_true, Bool.not_true, Bool.not_false, true_and, and_true]
  refine places_use hW hL fun pp hpp => letters_use hW hL fun pq hpq => ?_
  simp only [set_app, drop_app, ret_app, asg_app, par_app, par3_app, put_app, next_app, cont_app, break_app, seq_set, seq_drop, seq_ret, seq_asg, seq_par, seq_par3, seq_put, seq_next, dOp, dUn, dVar, dC, dTup, dLst, dNil, dCons, dCall, dCB, dBM, isTy_str, dTB, dAndT, dOrT, dNotT, dAnd, dOr, dNot, dIf, dTru, truth, dChain, dSl, dPart, dNoPart,  dLc,  dRng1, dRng2,  dEnumT, dgName, dgTup, dgCons, dgNil, dDct0, dYes, dwipe, dstart, rAdd_int, rAdd_str, rAdd_tup, rSub_int, rMul_int, rMod_int, rFdiv_int, rNeg_int, rIs_non, rIsNot_non, rIs_bl, DD.isNonD,  rIx_str, rIx_tup, rIx_scr, rLen_str, rLen_tup, rLen_scr, rTuple_tup, rList_tup, rIn_s1, rIn_s2, rIn_s3, rMax2_int, rMin2_int, rInt1_int, rSl_str, rSl_tup, rev_app, revK_tup, seqX_app, seqK_tup, seqK_str, zip_app, zipK_tup, rLt_int, rLe_int, rGt_int, rGe_int, rLt_str, rLe_str, rGt_str, rGe_str, rOrd_encS, DD.rEq_int, DD.rEq_str, DD.rEq_bl, DD.rNe_int, DD.rNe_str, rEq_encS, rEq_encO, rEq_OS, atI_0, atI_1, atI_2, atI_3, atI_4, atI_5, atI_snoc, ob_some, gup_same, List.map_cons, List.map_nil, List.length_cons, List.length_nil, List.cons_append, List.nil_append, List.getElem?_cons_zero, List.getElem?_cons_succ, List.set_cons_zero, List.set_cons_succ, List.replicate_zero, List.replicate_succ, Nat.reduceSub, Nat.reduceAdd, if_true, if_false, Bool.false_eq_true, Bool.not_true, Bool.not_false, true_and, and_true, lcL]
  refine cms_use (b := true) hW hL fun a1 ha1 => cms_use (b := false) hW hL fun a2 ha2 => ?_
  intro p0 hp0
  rw [rDict_lst (prs := [(.str "bold", .ref a1), (.str "link", .ref a2)]) gup_same rfl]
  refine ⟨⟨fun x hx => ?_, by show 2 < 16777216; omega⟩, fun pm hpm pf hpf => ?_⟩
  · rcases List.mem_cons.mp hx with z | z
    · subst z; exact ⟨rfl, by show NestedKey.depth (.text _) ≤ 8; simp [NestedKey.depth]⟩
    · rw [List.mem_singleton] at z; subst z; exact ⟨rfl, by show NestedKey.depth (.text _) ≤ 8; simp [NestedKey.depth]⟩
  have S0 : Sg L pp pq pm a1 a2 (gup (gup (gup (gup (gup (gup g0 pp (.dct (dictS (pls L)))) pq (.dct (dictS (wrs L)))) a1 (.lst ((cms L true).map M.encD))) a2 (.lst ((cms L false).map M.encD))) p0 (.lst [.tup [.str "bold", .ref a1], .tup [.str "link", .ref a2]])) pm (.dct (mkD2 a1 a2))) := by
    have n1 : pp ≠ pq := fun z => by rw [← z, gup_same] at hpq; cases hpq
    have m1 : ∀ {a : Addr} {o : O} {G : DG} {b : Addr}, G a = some o → G b = none → a ≠ b := fun e1 e2 z => by rw [z, e2] at e1; cases e1
    have q1 : gup (gup g0 pp (.dct (dictS (pls L)))) pq (.dct (dictS (wrs L))) pp = some (.dct (dictS (pls L))) := by rw [gup_ne n1, gup_same]
    have q2 : gup (gup g0 pp (.dct (dictS (pls L)))) pq (.dct (dictS (wrs L))) pq = some (.dct (dictS (wrs L))) := gup_same
    generalize gup (gup g0 pp (.dct (dictS (pls L)))) pq (.dct (dictS (wrs L))) = G1 at *
    have r1 : gup G1 a1 (.lst ((cms L true).map M.encD)) pp = some (.dct (dictS (pls L))) := by rw [gup_ne (m1 q1 ha1)]; exact q1
    have r2 : gup G1 a1 (.lst ((cms L true).map M.encD)) pq = some (.dct (dictS (wrs L))) := by rw [gup_ne (m1 q2 ha1)]; exact q2
    have r3 : gup G1 a1 (.lst ((cms L true).map M.encD)) a1 = some (.lst ((cms L true).map M.encD)) := gup_same
    generalize gup G1 a1 (.lst ((cms L true).map M.encD)) = G2 at *
    have s1 : gup G2 a2 (.lst ((cms L false).map M.encD)) pp = some (.dct (dictS (pls L))) := by rw [gup_ne (m1 r1 ha2)]; exact r1
    have s2 : gup G2 a2 (.lst ((cms L false).map M.encD)) pq = some (.dct (dictS (wrs L))) := by rw [gup_ne (m1 r2 ha2)]; exact r2
    have s3 : gup G2 a2 (.lst ((cms L false).map M.encD)) a1 = some (.lst ((cms L true).map M.encD)) := by rw [gup_ne (m1 r3 ha2)]; exact r3
    have s4 : gup G2 a2 (.lst ((cms L false).map M.encD)) a2 = some (.lst ((cms L false).map M.encD)) := gup_same
    generalize gup G2 a2 (.lst ((cms L false).map M.encD)) = G3 at *
    generalize hl : O.lst [D.tup [.str "bold", .ref a1], .tup [.str "link", .ref a2]] = ol at *
    have t1 : gup G3 p0 ol pp = some (.dct (dictS (pls L))) := by rw [gup_ne (m1 s1 hp0)]; exact s1
    have t2 : gup G3 p0 ol pq = some (.dct (dictS (wrs L))) := by rw [gup_ne (m1 s2 hp0)]; exact s2
    have t3 : gup G3 p0 ol a1 = some (.lst ((cms L true).map M.encD)) := by rw [gup_ne (m1 s3 hp0)]; exact s3
    have t4 : gup G3 p0 ol a2 = some (.lst ((cms L false).map M.encD)) := by rw [gup_ne (m1 s4 hp0)]; exact s4
    exact ⟨by rw [gup_ne (m1 t1 hpm)]; exact t1, by rw [gup_ne (m1 t2 hpm)]; exact t2, gup_same, by rw [gup_ne (m1 t3 hpm)]; exact t3, by rw [gup_ne (m1 t4 hpm)]; exact t4⟩
  have S1 := S0.alloc (o := .lst []) hpf
  rw [seq_for]
  simp only [set_app, drop_app, ret_app, asg_app, par_app, par3_app, put_app, next_app, cont_app, break_app, seq_set, seq_drop, seq_ret, seq_asg, seq_par, seq_par3, seq_put, seq_next, dOp, dUn, dVar, dC, dTup, dLst, dNil, dCons, dCall, dCB, dBM, isTy_str, dTB, dAndT, dOrT, dNotT, dAnd, dOr, dNot, dIf, dTru, truth, dChain, dSl, dPart, dNoPart,  dLc,  dRng1, dRng2,  dEnumT, dgName, dgTup, dgCons, dgNil, dDct0, dYes, dwipe, dstart, rAdd_int, rAdd_str, rAdd_tup, rSub_int, rMul_int, rMod_int, rFdiv_int, rNeg_int, rIs_non, rIsNot_non, rIs_bl, DD.isNonD,  rIx_str, rIx_tup, rIx_scr, rLen_str, rLen_tup, rLen_scr, rTuple_tup, rList_tup, rIn_s1, rIn_s2, rIn_s3, rMax2_int, rMin2_int, rInt1_int, rSl_str, rSl_tup, rev_app, revK_tup, seqX_app, seqK_tup, seqK_str, zip_app, zipK_tup, rLt_int, rLe_int, rGt_int, rGe_int, rLt_str, rLe_str, rGt_str, rGe_str, rOrd_encS, DD.rEq_int, DD.rEq_str, DD.rEq_bl, DD.rNe_int, DD.rNe_str, rEq_encS, rEq_encO, rEq_OS, atI_0, atI_1, atI_2, atI_3, atI_4, atI_5, atI_snoc, ob_some, gup_same, List.map_cons, List.map_nil, List.length_cons, List.length_nil, List.cons_append, List.nil_append, List.getElem?_cons_zero, List.getElem?_cons_succ, List.set_cons_zero, List.set_cons_succ, List.replicate_zero, List.replicate_succ, Nat.reduceSub, Nat.reduceAdd, if_true, if_false, Bool.false_eq_true, Bool.not_true, Bool.not_false, true_and, and_true]
  refine shownL_use hW hL fun ps hps => ?_
  have S2 := S1.alloc (o := .lst ((shownL L).map encS)) hps
  have hne := S0.ne hpf
  have nps : ps ≠ pf := fun z => by rw [z, gup_same] at hps; cases hps
  have gpf := gup_ne (a := ps) (o := .lst ((shownL L).map encS)) (Ne.symm nps) (G := gup (gup (gup (gup (gup (gup (gup g0 pp (.dct (dictS (pls L)))) pq (.dct (dictS (wrs L)))) a1 (.lst ((cms L true).map M.encD))) a2 (.lst ((cms L false).map M.encD))) p0 (.lst [.tup [.str "bold", .ref a1], .tup [.str "link", .ref a2]])) pm (.dct (mkD2 a1 a2))) pf (.lst []))
  rw [gup_same] at gpf
  rw [seqK_lst gup_same]
  refine forL_ind (fun i δ G => Sg L pp pq pm a1 a2 G ∧ G ps = some (.lst ((shownL L).map encS)) ∧ ∃ l, l = ((shownL L).take i).foldl (fun l s => addSp l (ltrD L s) (vv L s)) [] ∧ G pf = some (.lst (l.map encSp)) ∧ (∀ y ∈ l, y.1.length ≤ i) ∧ l.length ≤ i ∧ ∃ r5 r6 r7 r8, δ = [some (D.tup (L.map M.encD)), some (.ref pp), some (.ref pq), some (.ref pm), some (.ref pf), r5, r6, r7, r8]) ?_ ?_ _ _ ⟨S2, gup_same, [], rfl, gpf, fun _ h => (List.not_mem_nil h).elim, Nat.le_refl _, none, none, none, none, rfl⟩
  · rintro i d F hd hF δ G ⟨S, hps, l, hl, hpf, htx, hln, r5, r6, r7, r8, rfl⟩
    obtain ⟨s, hs, rfl, hm⟩ := map_get hd
    have hsl := shownL_mem hW hm
    refine ⟨hps, ?_⟩
    simp only [set_app, drop_app, ret_app, asg_app, par_app, par3_app, put_app, next_app, cont_app, break_app, seq_set, seq_drop, seq_ret, seq_asg, seq_par, seq_par3, seq_put, seq_next, dOp, dUn, dVar, dC, dTup, dLst, dNil, dCons, dCall, dCB, dBM, isTy_str, dTB, dAndT, dOrT, dNotT, dAnd, dOr, dNot, dIf, dTru, truth, dChain, dSl, dPart, dNoPart,  dLc,  dRng1, dRng2,  dEnumT, dgName, dgTup, dgCons, dgNil, dDct0, dYes, dwipe, dstart, rAdd_int, rAdd_str, rAdd_tup, rSub_int, rMul_int, rMod_int, rFdiv_int, rNeg_int, rIs_non, rIsNot_non, rIs_bl, DD.isNonD,  rIx_str, rIx_tup, rIx_scr, rLen_str, rLen_tup, rLen_scr, rTuple_tup, rList_tup, rIn_s1, rIn_s2, rIn_s3, rMax2_int, rMin2_int, rInt1_int, rSl_str, rSl_tup, rev_app, revK_tup, seqX_app, seqK_tup, seqK_str, zip_app, zipK_tup, rLt_int, rLe_int, rGt_int, rGe_int, rLt_str, rLe_str, rGt_str, rGe_str, rOrd_encS, DD.rEq_int, DD.rEq_str, DD.rEq_bl, DD.rNe_int, DD.rNe_str, rEq_encS, rEq_encO, rEq_OS, atI_0, atI_1, atI_2, atI_3, atI_4, atI_5, atI_snoc, ob_some, gup_same, List.map_cons, List.map_nil, List.length_cons, List.length_nil, List.cons_append, List.nil_append, List.getElem?_cons_zero, List.getElem?_cons_succ, List.set_cons_zero, List.set_cons_succ, List.replicate_zero, List.replicate_succ, Nat.reduceSub, Nat.reduceAdd, if_true, if_false, Bool.false_eq_true, Bool.not_true, Bool.not_false, true_and, and_true]
    rw [seq_for]
    simp only [set_app, drop_app, ret_app, asg_app, par_app, par3_app, put_app, next_app, cont_app, break_app, seq_set, seq_drop, seq_ret, seq_asg, seq_par, seq_par3, seq_put, seq_next, dOp, dUn, dVar, dC, dTup, dLst, dNil, dCons, dCall, dCB, dBM, isTy_str, dTB, dAndT, dOrT, dNotT, dAnd, dOr, dNot, dIf, dTru, truth, dChain, dSl, dPart, dNoPart,  dLc,  dRng1, dRng2,  dEnumT, dgName, dgTup, dgCons, dgNil, dDct0, dYes, dwipe, dstart, rAdd_int, rAdd_str, rAdd_tup, rSub_int, rMul_int, rMod_int, rFdiv_int, rNeg_int, rIs_non, rIsNot_non, rIs_bl, DD.isNonD,  rIx_str, rIx_tup, rIx_scr, rLen_str, rLen_tup, rLen_scr, rTuple_tup, rList_tup, rIn_s1, rIn_s2, rIn_s3, rMax2_int, rMin2_int, rInt1_int, rSl_str, rSl_tup, rev_app, revK_tup, seqX_app, seqK_tup, seqK_str, zip_app, zipK_tup, rLt_int, rLe_int, rGt_int, rGe_int, rLt_str, rLe_str, rGt_str, rGe_str, rOrd_encS, DD.rEq_int, DD.rEq_str, DD.rEq_bl, DD.rNe_int, DD.rNe_str, rEq_encS, rEq_encO, rEq_OS, atI_0, atI_1, atI_2, atI_3, atI_4, atI_5, atI_snoc, ob_some, gup_same, List.map_cons, List.map_nil, List.length_cons, List.length_nil, List.cons_append, List.nil_append, List.getElem?_cons_zero, List.getElem?_cons_succ, List.set_cons_zero, List.set_cons_succ, List.replicate_zero, List.replicate_succ, Nat.reduceSub, Nat.reduceAdd, if_true, if_false, Bool.false_eq_true, Bool.not_true, Bool.not_false, true_and, and_true, forL]
    refine kind_use (b := true) hW hsl S (fun _ _ _ => rfl) fun d1 => ⟨by decide, ?_⟩
    refine kind_use (b := false) hW hsl S (fun _ _ _ => rfl) fun d2 => ⟨by decide, ?_⟩
    rw [vals_enc, vals_enc]
    rw [if_app]
    simp only [set_app, drop_app, ret_app, asg_app, par_app, par3_app, put_app, next_app, cont_app, break_app, seq_set, seq_drop, seq_ret, seq_asg, seq_par, seq_par3, seq_put, seq_next, dOp, dUn, dVar, dC, dTup, dLst, dNil, dCons, dCall, dCB, dBM, isTy_str, dTB, dAndT, dOrT, dNotT, dAnd, dOr, dNot, dIf, dTru, truth, dChain, dSl, dPart, dNoPart,  dLc,  dRng1, dRng2,  dEnumT, dgName, dgTup, dgCons, dgNil, dDct0, dYes, dwipe, dstart, rAdd_int, rAdd_str, rAdd_tup, rSub_int, rMul_int, rMod_int, rFdiv_int, rNeg_int, rIs_non, rIsNot_non, rIs_bl, DD.isNonD,  rIx_str, rIx_tup, rIx_scr, rLen_str, rLen_tup, rLen_scr, rTuple_tup, rList_tup, rIn_s1, rIn_s2, rIn_s3, rMax2_int, rMin2_int, rInt1_int, rSl_str, rSl_tup, rev_app, revK_tup, seqX_app, seqK_tup, seqK_str, zip_app, zipK_tup, rLt_int, rLe_int, rGt_int, rGe_int, rLt_str, rLe_str, rGt_str, rGe_str, rOrd_encS, DD.rEq_int, DD.rEq_str, DD.rEq_bl, DD.rNe_int, DD.rNe_str, rEq_encS, rEq_encO, rEq_OS, atI_0, atI_1, atI_2, atI_3, atI_4, atI_5, atI_snoc, ob_some, gup_same, List.map_cons, List.map_nil, List.length_cons, List.length_nil, List.cons_append, List.nil_append, List.getElem?_cons_zero, List.getElem?_cons_succ, List.set_cons_zero, List.set_cons_succ, List.replicate_zero, List.replicate_succ, Nat.reduceSub, Nat.reduceAdd, if_true, if_false, Bool.false_eq_true, Bool.not_true, Bool.not_false, true_and, and_true]
    rw [hpf]
    have hi : i < 1000 := by
      have := (List.getElem?_eq_some_iff.mp hs).1
      have := shownL_len hW
      omega
    have lt : ∀ {Q : DK} {G' : DG}, Sg L pp pq pm a1 a2 G' → Q (.str (ltrD L s)) G' → DD.rIx (.ref pq) (encS s) G' Q := by
      intro Q G' S' q
      rw [rIx_dct S'.pq, fd_all (wrs L) s, (ltrD_of hW hsl).1, ob_some]
      exact ⟨keyS_ok s, q⟩
    have h1 := (ltrD_of hW hsl).2
    have go : ∀ l', l' = addSp l (ltrD L s) (vv L s) → ∀ r8, F [some (D.tup (L.map M.encD)), some (.ref pp), some (.ref pq), some (.ref pm), some (.ref pf), some (encS s), some (D.tup [encV (vO (tell L true s) true), encV (vO (tell L false s) false)]), some (D.str (Str.ofString "link")), r8] (gup G pf (.lst (l'.map encSp))) := by
      intro l' hl' r8
      refine hF _ _ ⟨S.put hne, by rw [gup_ne nps]; exact hps, l', ?_, gup_same, ?_, ?_, _, _, _, _, rfl⟩
      · rw [hl', take_snoc hs, List.foldl_append, ← hl]
        rfl
      · rw [hl']
        exact addSp_txt h1 htx (Nat.zero_le _)
      · rw [hl']
        have := addSp_len l (ltrD L s) (vv L s)
        omega
    rcases List.eq_nil_or_concat l with e | ⟨l0, y, e⟩
    · subst e
      simp only [List.map_nil, List.isEmpty_nil, Bool.not_true, ob_some, Bool.false_eq_true, if_false]
      rw [isTy_lst hpf]
      refine ⟨trivial, lt S ⟨by decide, ?_⟩⟩
      rw [rAppend_lst hpf]
      refine ⟨by decide, go _ rfl _⟩
    · rw [List.concat_eq_append] at e
      rw [e, List.map_append, List.map_cons, List.map_nil] at hpf ⊢
      have ne : (List.map encSp l0 ++ [encSp y]).isEmpty = false := by cases l0 <;> rfl
      simp only [ne, Bool.not_false, ob_some, if_true]
      have ey : encSp y = .tup [.str y.1, encV y.2.1, encV y.2.2] := rfl
      have hy : y.1.length ≤ i := htx y (by rw [e]; exact List.mem_append_right _ List.mem_cons_self)
      have hll : l0.length + 1 ≤ i := by rw [e, List.length_append] at hln; exact hln
      rw [rIx_lst hpf, atI_snoc, ob_some, ey, rSl_tup, cutE, rEq_flat (flat_vv _ _) (flat_vv _ _) (.inl (dp_vv _ _)), eqD_vv]
      by_cases hv : (y.2.1, y.2.2) = (vO (tell L true s) true, vO (tell L false s) false)
      · simp only [hv, decide_true, if_true]
        rw [rIx_lst hpf, atI_snoc, ob_some, ey, rIx_tup, atI_0, ob_some]
        refine lt S ?_
        rw [rAdd_str]
        refine ⟨by omega, by decide, put_last hpf ?_⟩
        have ea : addSp l (ltrD L s) (vv L s) = l0 ++ [(y.1 ++ ltrD L s, vv L s)] := by
          rw [e, addSp_snoc, if_pos (show y.2 = vv L s from hv)]
        have := go _ ea.symm (some d2)
        rw [List.map_append] at this
        exact this
      · simp only [hv, decide_false, Bool.false_eq_true, if_false]
        rw [isTy_lst hpf]
        refine ⟨trivial, lt S ⟨by decide, ?_⟩⟩
        rw [rAppend_lst hpf]
        refine ⟨by rw [List.length_append, List.length_map]; show l0.length + 1 < _; omega, ?_⟩
        have ea : addSp l (ltrD L s) (vv L s) = l0 ++ [y] ++ [(ltrD L s, vv L s)] := by
          rw [e, addSp_snoc, if_neg (fun z : y.2 = vv L s => hv z)]
        have := go _ ea.symm (some d2)
        rw [List.map_append, List.map_append] at this
        exact this
  · rintro δ G ⟨S, hps, l, hl, hpf, htx, hln, r5, r6, r7, r8, rfl⟩
    refine ⟨hps, ?_⟩
    simp only [set_app, drop_app, ret_app, asg_app, par_app, par3_app, put_app, next_app, cont_app, break_app, seq_set, seq_drop, seq_ret, seq_asg, seq_par, seq_par3, seq_put, seq_next, dOp, dUn, dVar, dC, dTup, dLst, dNil, dCons, dCall, dCB, dBM, isTy_str, dTB, dAndT, dOrT, dNotT, dAnd, dOr, dNot, dIf, dTru, truth, dChain, dSl, dPart, dNoPart,  dLc,  dRng1, dRng2,  dEnumT, dgName, dgTup, dgCons, dgNil, dDct0, dYes, dwipe, dstart, rAdd_int, rAdd_str, rAdd_tup, rSub_int, rMul_int, rMod_int, rFdiv_int, rNeg_int, rIs_non, rIsNot_non, rIs_bl, DD.isNonD,  rIx_str, rIx_tup, rIx_scr, rLen_str, rLen_tup, rLen_scr, rTuple_tup, rList_tup, rIn_s1, rIn_s2, rIn_s3, rMax2_int, rMin2_int, rInt1_int, rSl_str, rSl_tup, rev_app, revK_tup, seqX_app, seqK_tup, seqK_str, zip_app, zipK_tup, rLt_int, rLe_int, rGt_int, rGe_int, rLt_str, rLe_str, rGt_str, rGe_str, rOrd_encS, DD.rEq_int, DD.rEq_str, DD.rEq_bl, DD.rNe_int, DD.rNe_str, rEq_encS, rEq_encO, rEq_OS, atI_0, atI_1, atI_2, atI_3, atI_4, atI_5, atI_snoc, ob_some, gup_same, List.map_cons, List.map_nil, List.length_cons, List.length_nil, List.cons_append, List.nil_append, List.getElem?_cons_zero, List.getElem?_cons_succ, List.set_cons_zero, List.set_cons_succ, List.replicate_zero, List.replicate_succ, Nat.reduceSub, Nat.reduceAdd, if_true, if_false, Bool.false_eq_true, Bool.not_true, Bool.not_false, true_and, and_true]
    rw [rTuple_lst hpf, hl, List.length_map, List.take_length]
    rfl
theorem good_spans {P : Program} {w : World} {K : PySem.W.Frag} {mg : Str → Option Value} {base : Heap} (D0 : DefAt K mg "spans" (top 18)) (g_dict : mg "dict" = none) (g_tuple : mg "tuple" = none) (c_BARE : GlTab K w mg "BARE" tab_BARE) (c_KINDS : GlC K mg "KINDS" cst_KINDS) (G_counting_marks : Good P w K mg base "counting_marks" ps_counting_marks 2 sp_counting_marks) (G_first_telling : Good P w K mg base "first_telling" ps_first_telling 2 sp_first_telling) (G_letters_of : Good P w K mg base "letters_of" ps_letters_of 1 sp_letters_of) (G_places_of : Good P w K mg base "places_of" ps_places_of 2 sp_places_of) (G_shown : Good P w K mg base "shown" ps_shown 3 sp_shown) : Good P w K mg base "spans" ps_spans 4 sp_spans :=
  goodP D0 sc_spans t_spans bind_spans len_spans (fun f cdv A outer s H E hr => der_spans g_dict g_tuple c_BARE c_KINDS G_counting_marks G_first_telling G_letters_of G_places_of G_shown f cdv A outer s H E hr) pure_spans
end K

namespace K
open PySem PySem.Spec PyProof.Rows L2 DD M
end K

namespace K
open PySem PySem.Spec PyProof.Rows L2 DD M
theorem sm_encV (n : Nat) (v : Val) : Sm (n + 1) (encV v) := by cases v <;> trivial
theorem sm_encS (n : Nat) (s : Stp) : Sm (n + 2) (encS s) := by
  intro x hx
  rcases List.mem_cons.mp hx with z | z
  · subst z; trivial
  · rw [List.mem_singleton] at z; subst z; trivial
theorem sm_encO (n : Nat) (s : Option Stp) : Sm (n + 2) (encO s) := by
  cases s with
  | none => trivial
  | some s => exact sm_encS n s
theorem sm_tup {n : Nat} {ds : List D} (h : ∀ x ∈ ds, Sm n x) : Sm (n + 1) (.tup ds) := h
theorem sm_two {n : Nat} {x y : D} (h1 : Sm n x) (h2 : Sm n y) : Sm (n + 1) (.tup [x, y]) := by
  intro z hz
  rcases List.mem_cons.mp hz with e | e
  · subst e; exact h1
  · rw [List.mem_singleton] at e; subst e; exact h2
theorem sm_map {α : Type} {n : Nat} {l : List α} {f : α → D} (h : ∀ a, Sm n (f a)) : Sm (n + 1) (.tup (l.map f)) := by
  intro x hx
  obtain ⟨a, _, rfl⟩ := List.mem_map.mp hx
  exact h a
theorem sm_encSp (n : Nat) (x : Str × Val × Val) : Sm (n + 2) (encSp x) := by
  intro y hy
  rcases List.mem_cons.mp hy with e | hy
  · subst e; trivial
  · rcases List.mem_cons.mp hy with e | hy
    · subst e; exact sm_encV n _
    · rw [List.mem_singleton] at hy; subst hy; exact sm_encV n _
theorem sm_spans (n : Nat) (L : List Deed) : Sm (n + 3) (.tup ((spansM L).map encSp)) := sm_map (sm_encSp n)
theorem spans_use {L : List Deed} {G : DG} {Q : DK} {RE : DX} (hW : Wf L) (hL : L.length ≤ 1000) (q : Q (.tup ((spansM L).map encSp)) G) : sp_spans [.tup (L.map M.encD)] G Q RE := ⟨_, ⟨L, ⟨rfl, hW, hL⟩, rfl⟩, q⟩
theorem text_use {L : List Deed} {G : DG} {Q : DK} {RE : DX} (hW : Wf L) (hL : L.length ≤ 1000) (q : Q (.str (textM L)) G) : sp_text [.tup (L.map M.encD)] G Q RE := ⟨_, ⟨L, ⟨rfl, hW, hL⟩, rfl⟩, q⟩
theorem teller_use {L : List Deed} {s : Stp} {b : Bool} {G : DG} {Q : DK} {RE : DX} (hW : Wf L) (hL : L.length ≤ 1000) (hs : s ∈ lets L) (q : Q (tolds L b s) G) : sp_teller [.tup (L.map M.encD), encS s, .str (kin b)] G Q RE := ⟨_, ⟨L, s, b, ⟨rfl, hW, hL, hs⟩, rfl⟩, q⟩
theorem value_use2 {L : List Deed} {s : Stp} {b : Bool} {G : DG} {Q : DK} {RE : DX} (hW : Wf L) (hL : L.length ≤ 1000) (hs : s ∈ lets L) (q : Q (vals L b s) G) : sp_value [.tup (L.map M.encD), encS s, .str (kin b)] G Q RE := ⟨_, ⟨L, s, b, ⟨rfl, hW, hL, hs⟩, rfl⟩, q⟩
def isMark : Deed → Bool
  | .mark _ _ _ _ _ => true
  | _ => false
theorem join_spans {L : List Deed} (hW : Wf L) (hL : L.length ≤ 1000) {p : Addr} {G : DG} {Q : DK} (h : G p = some (.lst ((spansM L).map fun x => .str x.1))) (q : Q (.str (textM L)) G) : DD.rJoin (.str "") [.ref p] G Q := by
  have e : (spansM L).map (fun x => D.str x.1) = ((spansM L).map (·.1)).map .str := by rw [List.map_map]; rfl
  rw [e] at h
  rw [rJoin_lst h, spans_text]
  have h1 := spans_sum hW
  have h2 := shownL_len hW
  have h3 := textM_len hW
  have h4 : (textM L).length = (textM L).cps.toList.length := rfl
  refine ⟨⟨?_, ?_⟩, q⟩
  · rw [h1]
    show _ + _ * 0 ≤ _
    omega
  · omega
theorem emp_use {G : DG} {Q : DK} {RE : DX} (q : Q (.tup []) G) : sp_spans [.tup []] G Q RE := spans_use (L := []) .nil (by decide) q
theorem empt_use {G : DG} {Q : DK} {RE : DX} (q : Q (.str "") G) : sp_text [.tup []] G Q RE := text_use (L := []) .nil (by decide) q
theorem isMark_b {m : Deed} (h : isMark m = true) : ∃ b, isMk b m = true := by
  cases m with
  | mark st b f e v => exact ⟨b, by show (b == b) = true; cases b <;> rfl⟩
  | _ => cases h
theorem enum2 {i : Nat} {d : D} (h : (enumD [.str "bold", .str "link"])[i]? = some d) : ∃ (b : Bool) (n : Int), d = .tup [.int n, .str (kin b)] ∧ ∀ x y : D, atI [x, y] n = some (if b = true then x else y) := by
  match i, h with
  | 0, h => cases h; exact ⟨true, 0, rfl, fun x y => atI_0⟩
  | 1, h => cases h; exact ⟨false, 1, rfl, fun x y => atI_1⟩
  | (i + 2), h => cases h
theorem told_use {L : List Deed} {b : Bool} {s : Stp} {G : DG} {Q : DK} (q : Q (tolds L b s) G) : if DD.isNonD (encT (tell L b s)) = true then Q .non G else DD.rIx (encT (tell L b s)) (.int 1) G Q := by
  unfold tolds at q
  cases h : tell L b s with
  | none => rw [h] at q; exact q
  | some m =>
    rw [h] at q
    obtain ⟨r, er, r1, r0⟩ := atI_at1 (d := m)
    show if DD.isNonD (M.encD m) = true then Q .non G else DD.rIx (M.encD m) (.int 1) G Q
    rw [er, rIx_tup, r1]
    exact q
theorem sm_tolds (n : Nat) (L : List Deed) (b : Bool) (s : Stp) : Sm (n + 2) (tolds L b s) := by
  unfold tolds
  split
  · exact sm_encS n _
  · trivial
theorem sm_vals (n : Nat) (L : List Deed) (b : Bool) (s : Stp) : Sm (n + 1) (vals L b s) := by
  rw [vals_enc]
  exact sm_encV n _
theorem encS_ix1 {s : Stp} {G : DG} {Q : DK} : DD.rIx (encS s) (.int 1) G Q = Q (.str s.2) G := by
  show DD.rIx (.tup [.int s.1, .str s.2]) (.int 1) G Q = _
  rw [rIx_tup, atI_1, ob_some]
theorem encS_ix0 {s : Stp} {G : DG} {Q : DK} : DD.rIx (encS s) (.int 0) G Q = Q (.int s.1) G := by
  show DD.rIx (.tup [.int s.1, .str s.2]) (.int 0) G Q = _
  rw [rIx_tup, atI_0, ob_some]
theorem sm_encD (n : Nat) (d : Deed) : Sm (n + 3) (M.encD d) := by
  cases d with
  | write s a c =>
    intro x hx
    simp only [List.mem_cons, List.not_mem_nil, or_false] at hx
    rcases hx with e | e | e | e
    · subst e; trivial
    · subst e; exact sm_encS n s
    · subst e; exact sm_encO n a
    · subst e; trivial
  | cut s g =>
    intro x hx
    simp only [List.mem_cons, List.not_mem_nil, or_false] at hx
    rcases hx with e | e | e
    · subst e; trivial
    · subst e; exact sm_encS n s
    · subst e; exact sm_encS n g
  | mark s b f e v =>
    intro x hx
    simp only [List.mem_cons, List.not_mem_nil, or_false] at hx
    rcases hx with q | q | q | q | q | q
    · subst q; trivial
    · subst q; exact sm_encS n s
    · subst q; trivial
    · subst q; exact sm_encS n f
    · subst q; exact sm_encO n e
    · subst q; exact sm_encV (n + 1) v
  | sw on s g =>
    intro x hx
    simp only [List.mem_cons, List.not_mem_nil, or_false] at hx
    rcases hx with e | e | e
    · subst e; trivial
    · subst e; exact sm_encS n s
    · subst e; exact sm_encS n g
theorem sm_deeds (n : Nat) (L : List Deed) : Sm (n + 4) (.tup (L.map M.encD)) := sm_map (sm_encD n)
theorem flat_encSp (x : Str × Val × Val) : flat (encSp x) = true := by
  show (true && (flat (encV x.2.1) && (flat (encV x.2.2) && true))) = true
  rw [flat_encV, flat_encV]
  rfl
theorem dp_encSp (x : Str × Val × Val) : dpP (toP (encSp x)) ≤ 1 := by
  show max 0 (max (dpP (toP (encV x.2.1))) (max (dpP (toP (encV x.2.2))) 0)) + 1 ≤ 1
  rw [dp_encV, dp_encV]
  decide
def spansD (L : List Deed) : D := .tup ((spansM L).map encSp)
theorem flat_spans (L : List Deed) : flat (spansD L) = true := flats_map _ flat_encSp _
theorem dp_spans (L : List Deed) : dpP (toP (spansD L)) ≤ 60 := by
  show dpPs (toPs ((spansM L).map encSp)) + 1 ≤ 60
  have := dp_map encSp 1 dp_encSp (spansM L)
  omega
theorem eq_spans {A B : List Deed} {G : DG} {Q : DK} : DD.rEq (.tup ((spansM A).map encSp)) (.tup ((spansM B).map encSp)) G Q = Q (.bl (eqD (spansD A) (spansD B))) G := rEq_flat (flat_spans A) (flat_spans B) (.inl (dp_spans A))
end K

namespace K
open PySem PySem.Spec PyProof.Rows L2 DD M
/-! ### later_marks -/
theorem marks_use {L : List Deed} {b : Bool} {G : DG} {Q : DK} {RE : DX} (hW : Wf L) (hL : L.length ≤ 1000) (q : ∀ p, G p = none → Q (.ref p) (gup G p (.lst ((mks L b).map M.encD)))) : sp_marks_of [.tup (L.map M.encD), .str (kin b)] G Q RE := ⟨_, ⟨L, b, ⟨rfl, hW, hL⟩, rfl⟩, q⟩
def rel_later_marks (ds : List D) (o : O) : Prop := ∃ L b m, ds = [D.tup (L.map M.encD), .str (kin b), encO m] ∧ Wf L ∧ L.length ≤ 1000 ∧ o = .lst ((latD L b m).map fun d => encS d.st)
def sp_later_marks : DSp := spN rel_later_marks
abbrev N_later_marks : List Str := ["deeds", "kind", "mark", "deed"]
abbrev ps_later_marks : List Str := ["deeds", "kind", "mark"]
def t_later_marks : DTS :=
  (dRet (dCB rSorted (dCons (dLc (dSeqX (dCall sp_marks_of ex0 (dCons (dVar 0) (dCons (dVar 1) dNil)))) (dgName 3) (dOrT (dTB (dOp rIs (dVar 2) (dC .non))) (dTB (dOp (rOrd .gt) (dOp rIx (dVar 3) (dC (.int 1))) (dVar 2)))) (dOp rIx (dVar 3) (dC (.int 1))) [3]) dNil)))
theorem sc_later_marks : FnScope N_later_marks ps_later_marks (defScope (top 20)) := ⟨rfl, rfl, rfl, by decide +kernel, rfl, by decide +kernel, by decide +kernel⟩
theorem der_later_marks {P : Program} {w : World} {K : PySem.W.Frag} {mg : Str → Option Value} {base : Heap} (g_sorted : mg "sorted" = none) (G_marks_of : Good P w K mg base "marks_of" ps_marks_of 1 sp_marks_of) (f : Addr) (cdv : Value) (A : Around) (outer : List Env) (s : Shared) (H : Hp) (E : XK)
    (hr : Room 1 (A.deeper (envOfC "later_marks" (defScope (top 20)) s.heap.objs.size f cdv))) :
    DSs (cxOf CX0 P w K mg base N_later_marks "later_marks" (defScope (top 20)) f cdv A outer s H E).nox (Rg.top K w) (defBody (top 20)) t_later_marks := by
  have S := sc_later_marks
  exact (dss_one (ds_ret (de_callB (call_sortedD rfl) rfl g_sorted rfl (da_cons (de_lc (own := [("deed", 3)]) rfl S.nd (di_seq (de_callG G_marks_of hr rfl (da_cons (de_var (pv 0)) (da_cons (de_var (pv 1)) da_nil)))) (show BlkOk N_later_marks (defScope (top 20)) _ _ from ⟨rfl, by decide +kernel, by decide +kernel, by decide +kernel, by decide +kernel⟩) (fun _ _ _ _ _ => (dg_name (pg_name (i := 3) S.nd rfl (by first | exact Or.inl rfl | exact Or.inr rfl)) (by decide) (by decide))) (fun _ _ _ _ _ => (dts_one (dt_w (dw_or (dt_cmp op_isD (de_var (pv 2)) de_non (by rfl)) (dw_or1 (dt_cmp (op_gtD hr.units) (de_ix (ix_D hr.units) (de_var (pv 3)) de_int) (de_var (pv 2)) (by rfl))))))) (fun _ _ _ _ _ => (de_ix (ix_D hr.units) (de_var (pv 3)) de_int))) da_nil))))
theorem bind_later_marks (kV doc pm : Value) (an : Option Addr) (cdv ct : Value) (us : List Value) (hl : us.length = ps_later_marks.length) : bindArgs (PySem.W.fnOf "later_marks" "later_marks" (defArgs (top 20)) (defBody (top 20)) (defScope (top 20)) .none kV doc pm an cdv ct) ⟨us, []⟩ = pure (ps_later_marks.zip us) := match us, hl with | [_, _, _], _ => rfl
theorem len_later_marks : ∀ ds o, rel_later_marks ds o → ds.length = ps_later_marks.length := by
  rintro ds o ⟨L, b, m, rfl, _⟩; rfl
def latB (m : Option Stp) (d : Deed) : Bool := match m with
  | none => true
  | some m => ltS m d.st
theorem latD_eq {L : List Deed} (hW : Srt L) (b : Bool) (m : Option Stp) : sortS (((mks L b).filter (latB m)).map (·.st)) = (latD L b m).map (·.st) := by
  have e : latD L b m = (L.filter (isMk b)).filter (latB m) := by
    unfold latD
    rw [List.filter_filter]
    refine List.filter_congr fun d _ => ?_
    rw [Bool.and_comm]
    cases m <;> rfl
  refine sortS_eq ?_ ?_
  · rw [e]
    unfold mks
    rw [List.filter_reverse]
    exact ((List.reverse_perm _).map _).symm
  · rw [List.pairwise_map]
    exact (latD_srt hW b m).imp fun h => ltS_asym h
theorem pure_later_marks : ∀ ds o, rel_later_marks ds o → t_later_marks { nx := fun _ _ => False, rt := fun d G' => ∃ p, d = .ref p ∧ G' p = some o } (dstart N_later_marks ds) g0 := by
  rintro ds o ⟨L, b, m, rfl, hW, hL, rfl⟩
  simp only [t_later_marks, N_later_marks, set_app, drop_app, ret_app, asg_app, par_app, par3_app, put_app, next_app, cont_app, break_app, seq_set, seq_drop, seq_ret, seq_asg, seq_par, seq_par3, seq_put, seq_next, dOp, dUn, dVar, dC, dTup, dLst, dNil, dCons, dCall, dCB, dBM, isTy_str, dTB, dAndT, dOrT, dNotT, dAnd, dOr, dNot, dIf, dTru, truth, dChain, dSl, dPart, dNoPart,  dLc,  dRng1, dRng2,  dEnumT, dgName, dgTup, dgCons, dgNil, dDct0, dYes, dwipe, dstart, rAdd_int, rAdd_str, rAdd_tup, rSub_int, rMul_int, rMod_int, rFdiv_int, rNeg_int, rIs_non, rIsNot_non, rIs_bl, DD.isNonD, isi_tuple_non, isi_tuple_bl, isi_tuple_int, isi_tuple_str, isi_tuple_tup, isi_bool_non, isi_bool_bl, isi_bool_int, isi_bool_str, isi_bool_tup, isi_int_non, isi_int_bl, isi_int_int, isi_int_str, isi_int_tup, isi_str_non, isi_str_bl, isi_str_int, isi_str_str, isi_str_tup, isi_list_non, isi_list_bl, isi_list_int, isi_list_str, isi_list_tup, isi_is_int, isi_is_str, isi_is_non, isi_is_tup, rIx_str, rIx_tup, rIx_scr, rLen_str, rLen_tup, rLen_scr, rTuple_tup, rList_tup, rIn_s1, rIn_s2, rIn_s3, rMax2_int, rMin2_int, rInt1_int, rSl_str, rSl_tup, rev_app, revK_tup, seqX_app, seqK_tup, seqK_str, zip_app, zipK_tup, rLt_int, rLe_int, rGt_int, rGe_int, rLt_str, rLe_str, rGt_str, rGe_str, rOrd_encS, DD.rEq_int, DD.rEq_str, DD.rEq_bl, DD.rNe_int, DD.rNe_str, rEq_encS, rEq_encO, rEq_OS, atI_0, atI_1, atI_2, atI_3, atI_4, atI_5, atI_snoc, ob_some, gup_same, List.map_cons, List.map_nil, List.length_cons, List.length_nil, List.cons_append, List.nil_append, List.getElem?_cons_zero, List.getElem?_cons_succ, List.set_cons_zero, List.set_cons_succ, List.replicate_zero, List.replicate_succ, Nat.reduceSub, Nat.reduceAdd, if_true, if_false, Bool.false_eq_true, Bool.not_true, Bool.not_false, true_and, and_true]
  refine marks_use hW hL fun p hp => ?_
  rw [seqK_lst gup_same]
  refine lcL_ind (fun i acc G => acc = (((mks L b).take i).filter (latB m)).map (fun d => encS d.st) ∧ G p = some (.lst ((mks L b).map M.encD))) ?_ ?_ _ _ ⟨rfl, gup_same⟩
  · rintro i d F hd hF acc G ⟨rfl, hG⟩
    obtain ⟨e, he, rfl, hm⟩ := map_get hd
    refine ⟨hG, ?_⟩
    simp only [set_app, drop_app, ret_app, asg_app, par_app, par3_app, put_app, next_app, cont_app, break_app, seq_set, seq_drop, seq_ret, seq_asg, seq_par, seq_par3, seq_put, seq_next, dOp, dUn, dVar, dC, dTup, dLst, dNil, dCons, dCall, dCB, dBM, isTy_str, dTB, dAndT, dOrT, dNotT, dAnd, dOr, dNot, dIf, dTru, truth, dChain, dSl, dPart, dNoPart,  dLc,  dRng1, dRng2,  dEnumT, dgName, dgTup, dgCons, dgNil, dDct0, dYes, dwipe, dstart, rAdd_int, rAdd_str, rAdd_tup, rSub_int, rMul_int, rMod_int, rFdiv_int, rNeg_int, rIs_non, rIsNot_non, rIs_bl, DD.isNonD, isi_tuple_non, isi_tuple_bl, isi_tuple_int, isi_tuple_str, isi_tuple_tup, isi_bool_non, isi_bool_bl, isi_bool_int, isi_bool_str, isi_bool_tup, isi_int_non, isi_int_bl, isi_int_int, isi_int_str, isi_int_tup, isi_str_non, isi_str_bl, isi_str_int, isi_str_str, isi_str_tup, isi_list_non, isi_list_bl, isi_list_int, isi_list_str, isi_list_tup, isi_is_int, isi_is_str, isi_is_non, isi_is_tup, rIx_str, rIx_tup, rIx_scr, rLen_str, rLen_tup, rLen_scr, rTuple_tup, rList_tup, rIn_s1, rIn_s2, rIn_s3, rMax2_int, rMin2_int, rInt1_int, rSl_str, rSl_tup, rev_app, revK_tup, seqX_app, seqK_tup, seqK_str, zip_app, zipK_tup, rLt_int, rLe_int, rGt_int, rGe_int, rLt_str, rLe_str, rGt_str, rGe_str, rOrd_encS, DD.rEq_int, DD.rEq_str, DD.rEq_bl, DD.rNe_int, DD.rNe_str, rEq_encS, rEq_encO, rEq_OS, atI_0, atI_1, atI_2, atI_3, atI_4, atI_5, atI_snoc, ob_some, gup_same, List.map_cons, List.map_nil, List.length_cons, List.length_nil, List.cons_append, List.nil_append, List.getElem?_cons_zero, List.getElem?_cons_succ, List.set_cons_zero, List.set_cons_succ, List.replicate_zero, List.replicate_succ, Nat.reduceSub, Nat.reduceAdd, if_true, if_false, Bool.false_eq_true, Bool.not_true, Bool.not_false, true_and, and_true]
    obtain ⟨q, eq, q1, q0⟩ := atI_at1 (d := e)
    cases m with
    | none =>
      simp only [encO, isNonD, if_true]
      rw [eq, rIx_tup, q1, ob_some]
      refine hF _ _ ⟨?_, hG⟩
      rw [take_snoc he, List.filter_append, List.map_append]
      rfl
    | some m =>
      show if isNonD (encO (some m)) = true then _ else _
      rw [if_neg (show ¬ (isNonD (encO (some m)) = true) from Bool.false_ne_true)]
      rw [eq, rIx_tup, q1, ob_some]
      show rOrd .gt (encS e.st) (encS m) G _
      rw [rGt_encS]
      cases h : ltS m e.st with
      | true =>
        simp only [if_true]
        rw [rIx_tup, q1, ob_some]
        refine hF _ _ ⟨?_, hG⟩
        rw [take_snoc he, List.filter_append, List.map_append]
        simp [latB, h]
      | false =>
        simp only [Bool.false_eq_true, if_false]
        refine hF _ _ ⟨?_, hG⟩
        rw [take_snoc he, List.filter_append, List.map_append]
        simp [latB, h]
  · rintro acc G ⟨rfl, hG⟩
    refine ⟨hG, fun p2 hp2 => ?_⟩
    rw [List.length_map, List.take_length]
    have e1 : ((mks L b).filter (latB m)).map (fun d => encS d.st) = (((mks L b).filter (latB m)).map (·.st)).map encS := by rw [List.map_map]; rfl
    rw [e1, rSorted_lst gup_same]
    intro p3 hp3
    refine ⟨p3, rfl, ?_⟩
    rw [gup_same, latD_eq hW.sorted, List.map_map]
    rfl
theorem good_later_marks {P : Program} {w : World} {K : PySem.W.Frag} {mg : Str → Option Value} {base : Heap} (D0 : DefAt K mg "later_marks" (top 20)) (g_sorted : mg "sorted" = none) (G_marks_of : Good P w K mg base "marks_of" ps_marks_of 1 sp_marks_of) : Good P w K mg base "later_marks" ps_later_marks 2 sp_later_marks :=
  goodN D0 sc_later_marks t_later_marks bind_later_marks len_later_marks (fun f cdv A outer s H E hr => der_later_marks g_sorted G_marks_of f cdv A outer s H E hr) pure_later_marks
theorem later_use {L : List Deed} {b : Bool} {m : Option Stp} {G : DG} {Q : DK} {RE : DX} (hW : Wf L) (hL : L.length ≤ 1000) (q : ∀ p, G p = none → Q (.ref p) (gup G p (.lst ((latD L b m).map fun d => encS d.st)))) : sp_later_marks [.tup (L.map M.encD), .str (kin b), encO m] G Q RE := ⟨_, ⟨L, b, m, rfl, hW, hL, rfl⟩, q⟩
/-! ### paper -/
def rel_paper (ds : List D) (d : D) : Prop := ∃ L s b, PreT ds L s b ∧ d = paperD L b s
def sp_paper : DSp := spP rel_paper
abbrev N_paper : List Str := ["deeds", "stamp", "kind", "mark", "rows", "other"]
abbrev ps_paper : List Str := ["deeds", "stamp", "kind"]
def t_paper : DTS :=
  (dSeq (dSet 3 (dCall sp_teller ex0 (dCons (dVar 0) (dCons (dVar 1) (dCons (dVar 2) dNil))))) (dSeq (dSet 4 (dLst dNil)) (dSeq (dFor (dSeqX (dCall sp_later_marks ex0 (dCons (dVar 0) (dCons (dVar 2) (dCons (dVar 3) dNil))))) (dgName 5) (dDrop (dBM "list" rAppend (dVar 4) (dCons (dTup (dCons (dVar 5) (dCons (dIf (dTru (dCall sp_counts ex0 (dCons (dVar 0) (dCons (dVar 5) dNil)))) (dC (.str "apart")) (dC (.str "off"))) dNil))) dNil)))) (dRet (dTup (dCons (dVar 3) (dCons (dCB rTuple (dCons (dVar 4) dNil)) dNil)))))))
theorem sc_paper : FnScope N_paper ps_paper (defScope (top 21)) := ⟨rfl, rfl, rfl, by decide +kernel, rfl, by decide +kernel, by decide +kernel⟩
theorem der_paper {P : Program} {w : World} {K : PySem.W.Frag} {mg : Str → Option Value} {base : Heap} (g_tuple : mg "tuple" = none) (G_counts : Good P w K mg base "counts" ps_counts 1 sp_counts) (G_later_marks : Good P w K mg base "later_marks" ps_later_marks 2 sp_later_marks) (G_teller : Good P w K mg base "teller" ps_teller 3 sp_teller) (f : Addr) (cdv : Value) (A : Around) (outer : List Env) (s : Shared) (H : Hp) (E : XK)
    (hr : Room 3 (A.deeper (envOfC "paper" (defScope (top 21)) s.heap.objs.size f cdv))) :
    DSs (cxOf CX0 P w K mg base N_paper "paper" (defScope (top 21)) f cdv A outer s H E).nox (Rg.top K w) (defBody (top 21)) t_paper := by
  have S := sc_paper
  exact (dss_cons (ds_set (i := 3) S.nd rfl (by first | exact Or.inl rfl | exact Or.inr rfl) (de_callG G_teller hr rfl (da_cons (de_var (pv 0)) (da_cons (de_var (pv 1)) (da_cons (de_var (pv 2)) da_nil)))))
    (dss_cons (ds_set (i := 4) S.nd rfl (by first | exact Or.inl rfl | exact Or.inr rfl) (de_lst da_nil))
    (dss_cons (ds_for (vs := [5]) PassesOwn.never rfl (di_seq (de_callG G_later_marks hr rfl (da_cons (de_var (pv 0)) (da_cons (de_var (pv 2)) (da_cons (de_var (pv 3)) da_nil))))) (dg_name (pg_name (i := 5) S.nd rfl (by first | exact Or.inl rfl | exact Or.inr rfl)) (by decide) (by decide)) (dss_one (ds_expr (de_bm F.plainAttrs_list F.slot_list_append F.type_list_append mt_appendD (de_var (pv 4)) (da_cons (de_tup (da_cons (de_var (pv 5)) (da_cons (de_if (dt_truth (de_callG G_counts hr rfl (da_cons (de_var (pv 0)) (da_cons (de_var (pv 5)) da_nil)))) de_str de_str) da_nil))) da_nil)))))
    (dss_one (ds_ret (de_tup (da_cons (de_var (pv 3)) (da_cons (de_callTy call_tupleD rfl g_tuple rfl (da_cons (de_var (pv 4)) da_nil)) da_nil))))))))
theorem bind_paper (kV doc pm : Value) (an : Option Addr) (cdv ct : Value) (us : List Value) (hl : us.length = ps_paper.length) : bindArgs (PySem.W.fnOf "paper" "paper" (defArgs (top 21)) (defBody (top 21)) (defScope (top 21)) .none kV doc pm an cdv ct) ⟨us, []⟩ = pure (ps_paper.zip us) := match us, hl with | [_, _, _], _ => rfl
theorem len_paper : ∀ ds d, rel_paper ds d → ds.length = ps_paper.length := by
  rintro ds d ⟨L, s, b, ⟨rfl, _⟩, _⟩; rfl
theorem pure_paper : ∀ ds d, rel_paper ds d → t_paper { nx := fun _ _ => .non = d, rt := fun d' _ => d' = d } (dstart N_paper ds) g0 := by
  rintro ds d ⟨L, s, b, ⟨rfl, hW, hL, hs⟩, rfl⟩
  simp only [t_paper, N_paper, set_app, drop_app, ret_app, asg_app, par_app, par3_app, put_app, next_app, cont_app, break_app, seq_set, seq_drop, seq_ret, seq_asg, seq_par, seq_par3, seq_put, seq_next, dOp, dUn, dVar, dC, dTup, dLst, dNil, dCons, dCall, dCB, dBM, isTy_str, dTB, dAndT, dOrT, dNotT, dAnd, dOr, dNot, dIf, dTru, truth, dChain, dSl, dPart, dNoPart,  dLc,  dRng1, dRng2,  dEnumT, dgName, dgTup, dgCons, dgNil, dDct0, dYes, dwipe, dstart, rAdd_int, rAdd_str, rAdd_tup, rSub_int, rMul_int, rMod_int, rFdiv_int, rNeg_int, rIs_non, rIsNot_non, rIs_bl, DD.isNonD, isi_tuple_non, isi_tuple_bl, isi_tuple_int, isi_tuple_str, isi_tuple_tup, isi_bool_non, isi_bool_bl, isi_bool_int, isi_bool_str, isi_bool_tup, isi_int_non, isi_int_bl, isi_int_int, isi_int_str, isi_int_tup, isi_str_non, isi_str_bl, isi_str_int, isi_str_str, isi_str_tup, isi_list_non, isi_list_bl, isi_list_int, isi_list_str, isi_list_tup, isi_is_int, isi_is_str, isi_is_non, isi_is_tup, rIx_str, rIx_tup, rIx_scr, rLen_str, rLen_tup, rLen_scr, rTuple_tup, rList_tup, rIn_s1, rIn_s2, rIn_s3, rMax2_int, rMin2_int, rInt1_int, rSl_str, rSl_tup, rev_app, revK_tup, seqX_app, seqK_tup, seqK_str, zip_app, zipK_tup, rLt_int, rLe_int, rGt_int, rGe_int, rLt_str, rLe_str, rGt_str, rGe_str, rOrd_encS, DD.rEq_int, DD.rEq_str, DD.rEq_bl, DD.rNe_int, DD.rNe_str, rEq_encS, rEq_encO, rEq_OS, atI_0, atI_1, atI_2, atI_3, atI_4, atI_5, atI_snoc, ob_some, gup_same, List.map_cons, List.map_nil, List.length_cons, List.length_nil, List.cons_append, List.nil_append, List.getElem?_cons_zero, List.getElem?_cons_succ, List.set_cons_zero, List.set_cons_succ, List.replicate_zero, List.replicate_succ, Nat.reduceSub, Nat.reduceAdd, if_true, if_false, Bool.false_eq_true, Bool.not_true, Bool.not_false, true_and, and_true]
  refine teller_use hW hL hs ?_
  rw [tolds_enc]
  intro pr hpr
  rw [seq_for]
  simp only [set_app, drop_app, ret_app, asg_app, par_app, par3_app, put_app, next_app, cont_app, break_app, seq_set, seq_drop, seq_ret, seq_asg, seq_par, seq_par3, seq_put, seq_next, dOp, dUn, dVar, dC, dTup, dLst, dNil, dCons, dCall, dCB, dBM, isTy_str, dTB, dAndT, dOrT, dNotT, dAnd, dOr, dNot, dIf, dTru, truth, dChain, dSl, dPart, dNoPart,  dLc,  dRng1, dRng2,  dEnumT, dgName, dgTup, dgCons, dgNil, dDct0, dYes, dwipe, dstart, rAdd_int, rAdd_str, rAdd_tup, rSub_int, rMul_int, rMod_int, rFdiv_int, rNeg_int, rIs_non, rIsNot_non, rIs_bl, DD.isNonD, isi_tuple_non, isi_tuple_bl, isi_tuple_int, isi_tuple_str, isi_tuple_tup, isi_bool_non, isi_bool_bl, isi_bool_int, isi_bool_str, isi_bool_tup, isi_int_non, isi_int_bl, isi_int_int, isi_int_str, isi_int_tup, isi_str_non, isi_str_bl, isi_str_int, isi_str_str, isi_str_tup, isi_list_non, isi_list_bl, isi_list_int, isi_list_str, isi_list_tup, isi_is_int, isi_is_str, isi_is_non, isi_is_tup, rIx_str, rIx_tup, rIx_scr, rLen_str, rLen_tup, rLen_scr, rTuple_tup, rList_tup, rIn_s1, rIn_s2, rIn_s3, rMax2_int, rMin2_int, rInt1_int, rSl_str, rSl_tup, rev_app, revK_tup, seqX_app, seqK_tup, seqK_str, zip_app, zipK_tup, rLt_int, rLe_int, rGt_int, rGe_int, rLt_str, rLe_str, rGt_str, rGe_str, rOrd_encS, DD.rEq_int, DD.rEq_str, DD.rEq_bl, DD.rNe_int, DD.rNe_str, rEq_encS, rEq_encO, rEq_OS, atI_0, atI_1, atI_2, atI_3, atI_4, atI_5, atI_snoc, ob_some, gup_same, List.map_cons, List.map_nil, List.length_cons, List.length_nil, List.cons_append, List.nil_append, List.getElem?_cons_zero, List.getElem?_cons_succ, List.set_cons_zero, List.set_cons_succ, List.replicate_zero, List.replicate_succ, Nat.reduceSub, Nat.reduceAdd, if_true, if_false, Bool.false_eq_true, Bool.not_true, Bool.not_false, true_and, and_true]
  refine later_use hW hL fun p hp => ?_
  have hne : p ≠ pr := fun z => by rw [z, gup_same] at hp; cases hp
  rw [seqK_lst gup_same]
  refine forL_ind (fun i δ G => G p = some (.lst ((latD L b (toldO L b s)).map fun d => encS d.st)) ∧ G pr = some (.lst (((latD L b (toldO L b s)).take i).map fun d => .tup [encS d.st, why L d.st])) ∧ ∃ r5, δ = [some (.tup (L.map M.encD)), some (encS s), some (.str (kin b)), some (encO (toldO L b s)), some (.ref pr), r5]) ?_ ?_ _ _ ⟨gup_same, gk gup_same hp, _, rfl⟩
  · rintro i d F hd hF δ G ⟨hG, hr, r5, rfl⟩
    obtain ⟨e, he, rfl, hm⟩ := map_get hd
    refine ⟨hG, ?_⟩
    simp only [set_app, drop_app, ret_app, asg_app, par_app, par3_app, put_app, next_app, cont_app, break_app, seq_set, seq_drop, seq_ret, seq_asg, seq_par, seq_par3, seq_put, seq_next, dOp, dUn, dVar, dC, dTup, dLst, dNil, dCons, dCall, dCB, dBM, isTy_str, dTB, dAndT, dOrT, dNotT, dAnd, dOr, dNot, dIf, dTru, truth, dChain, dSl, dPart, dNoPart,  dLc,  dRng1, dRng2,  dEnumT, dgName, dgTup, dgCons, dgNil, dDct0, dYes, dwipe, dstart, rAdd_int, rAdd_str, rAdd_tup, rSub_int, rMul_int, rMod_int, rFdiv_int, rNeg_int, rIs_non, rIsNot_non, rIs_bl, DD.isNonD, isi_tuple_non, isi_tuple_bl, isi_tuple_int, isi_tuple_str, isi_tuple_tup, isi_bool_non, isi_bool_bl, isi_bool_int, isi_bool_str, isi_bool_tup, isi_int_non, isi_int_bl, isi_int_int, isi_int_str, isi_int_tup, isi_str_non, isi_str_bl, isi_str_int, isi_str_str, isi_str_tup, isi_list_non, isi_list_bl, isi_list_int, isi_list_str, isi_list_tup, isi_is_int, isi_is_str, isi_is_non, isi_is_tup, rIx_str, rIx_tup, rIx_scr, rLen_str, rLen_tup, rLen_scr, rTuple_tup, rList_tup, rIn_s1, rIn_s2, rIn_s3, rMax2_int, rMin2_int, rInt1_int, rSl_str, rSl_tup, rev_app, revK_tup, seqX_app, seqK_tup, seqK_str, zip_app, zipK_tup, rLt_int, rLe_int, rGt_int, rGe_int, rLt_str, rLe_str, rGt_str, rGe_str, rOrd_encS, DD.rEq_int, DD.rEq_str, DD.rEq_bl, DD.rNe_int, DD.rNe_str, rEq_encS, rEq_encO, rEq_OS, atI_0, atI_1, atI_2, atI_3, atI_4, atI_5, atI_snoc, ob_some, gup_same, List.map_cons, List.map_nil, List.length_cons, List.length_nil, List.cons_append, List.nil_append, List.getElem?_cons_zero, List.getElem?_cons_succ, List.set_cons_zero, List.set_cons_succ, List.replicate_zero, List.replicate_succ, Nat.reduceSub, Nat.reduceAdd, if_true, if_false, Bool.false_eq_true, Bool.not_true, Bool.not_false, true_and, and_true]
    rw [isTy_lst hr]
    refine ⟨trivial, counts_use hW hL ?_⟩
    have go : ∀ w : Str, why L e.st = .str w → DD.rAppend (.ref pr) [.tup [encS e.st, .str w]] G (fun _ G1 => F [some (.tup (L.map M.encD)), some (encS s), some (.str (kin b)), some (encO (toldO L b s)), some (.ref pr), some (encS e.st)] G1) := by
      intro w hw
      rw [rAppend_lst hr]
      have hlen : ((latD L b (toldO L b s)).take i).length ≤ L.length := Nat.le_trans (by rw [List.length_take]; omega : _ ≤ (latD L b (toldO L b s)).length) (List.length_filter_le _ _)
      refine ⟨by rw [List.length_map]; omega, hF _ _ ⟨gw hG hne, ?_, _, rfl⟩⟩
      rw [gup_same, take_snoc he, List.map_append, ← hw]
      rfl
    cases hc : M.counts L e.st with
    | true =>
      simp only [ob_some, if_true]
      exact go "apart" (by unfold why; rw [hc]; rfl)
    | false =>
      simp only [ob_some, Bool.false_eq_true, if_false]
      exact go "off" (by unfold why; rw [hc]; rfl)
  · rintro δ G ⟨hG, hr, r5, rfl⟩
    refine ⟨hG, ?_⟩
    simp only [set_app, drop_app, ret_app, asg_app, par_app, par3_app, put_app, next_app, cont_app, break_app, seq_set, seq_drop, seq_ret, seq_asg, seq_par, seq_par3, seq_put, seq_next, dOp, dUn, dVar, dC, dTup, dLst, dNil, dCons, dCall, dCB, dBM, isTy_str, dTB, dAndT, dOrT, dNotT, dAnd, dOr, dNot, dIf, dTru, truth, dChain, dSl, dPart, dNoPart,  dLc,  dRng1, dRng2,  dEnumT, dgName, dgTup, dgCons, dgNil, dDct0, dYes, dwipe, dstart, rAdd_int, rAdd_str, rAdd_tup, rSub_int, rMul_int, rMod_int, rFdiv_int, rNeg_int, rIs_non, rIsNot_non, rIs_bl, DD.isNonD, isi_tuple_non, isi_tuple_bl, isi_tuple_int, isi_tuple_str, isi_tuple_tup, isi_bool_non, isi_bool_bl, isi_bool_int, isi_bool_str, isi_bool_tup, isi_int_non, isi_int_bl, isi_int_int, isi_int_str, isi_int_tup, isi_str_non, isi_str_bl, isi_str_int, isi_str_str, isi_str_tup, isi_list_non, isi_list_bl, isi_list_int, isi_list_str, isi_list_tup, isi_is_int, isi_is_str, isi_is_non, isi_is_tup, rIx_str, rIx_tup, rIx_scr, rLen_str, rLen_tup, rLen_scr, rTuple_tup, rList_tup, rIn_s1, rIn_s2, rIn_s3, rMax2_int, rMin2_int, rInt1_int, rSl_str, rSl_tup, rev_app, revK_tup, seqX_app, seqK_tup, seqK_str, zip_app, zipK_tup, rLt_int, rLe_int, rGt_int, rGe_int, rLt_str, rLe_str, rGt_str, rGe_str, rOrd_encS, DD.rEq_int, DD.rEq_str, DD.rEq_bl, DD.rNe_int, DD.rNe_str, rEq_encS, rEq_encO, rEq_OS, atI_0, atI_1, atI_2, atI_3, atI_4, atI_5, atI_snoc, ob_some, gup_same, List.map_cons, List.map_nil, List.length_cons, List.length_nil, List.cons_append, List.nil_append, List.getElem?_cons_zero, List.getElem?_cons_succ, List.set_cons_zero, List.set_cons_succ, List.replicate_zero, List.replicate_succ, Nat.reduceSub, Nat.reduceAdd, if_true, if_false, Bool.false_eq_true, Bool.not_true, Bool.not_false, true_and, and_true]
    rw [rTuple_lst hr, List.length_map, List.take_length]
    rfl
theorem good_paper {P : Program} {w : World} {K : PySem.W.Frag} {mg : Str → Option Value} {base : Heap} (D0 : DefAt K mg "paper" (top 21)) (g_tuple : mg "tuple" = none) (G_counts : Good P w K mg base "counts" ps_counts 1 sp_counts) (G_later_marks : Good P w K mg base "later_marks" ps_later_marks 2 sp_later_marks) (G_teller : Good P w K mg base "teller" ps_teller 3 sp_teller) : Good P w K mg base "paper" ps_paper 4 sp_paper :=
  goodP D0 sc_paper t_paper bind_paper len_paper (fun f cdv A outer s H E hr => der_paper g_tuple G_counts G_later_marks G_teller f cdv A outer s H E hr) pure_paper
theorem paper_use {L : List Deed} {s : Stp} {b : Bool} {G : DG} {Q : DK} {RE : DX} (hW : Wf L) (hL : L.length ≤ 1000) (hs : s ∈ lets L) (q : Q (paperD L b s) G) : sp_paper [.tup (L.map M.encD), encS s, .str (kin b)] G Q RE := ⟨_, ⟨L, s, b, ⟨rfl, hW, hL, hs⟩, rfl⟩, q⟩
theorem two_of {α : Type} {l : List α} (h : l.length = 2) : ∃ y z, l = [y, z] := by
  match l, h with
  | [y, z], _ => exact ⟨y, z, rfl⟩
/-! ### is_row -/
def rel_is_row (ds : List D) (G : DG) (d : D) : Prop := ∃ (L : List Deed) (s : Stp) (m : Deed) (b : Bool) (x : D) (n : Nat), ds = [D.tup (L.map M.encD), encS s, encS m.st, x] ∧ Wf L ∧ L.length ≤ 1000 ∧ s ∈ lets L ∧ m ∈ L ∧ isMk b m = true ∧ Th G n x ∧ d = .bl (rowM G (M.counts L m.st) (covD L s m) m.st x)
def sp_is_row : DSp := spF rel_is_row
abbrev N_is_row : List Str := ["deeds", "stamp", "other", "thing"]
abbrev ps_is_row : List Str := ["deeds", "stamp", "other", "thing"]
def t_is_row : DTS :=
  (dSeq (dIfS (dOrT (dNotT (dTru (dCB rIsi (dCons (dVar 3) (dCons (dC (.ty "tuple")) dNil))))) (dOrT (dTB (dOp rNe (dCB rLen (dCons (dVar 3) dNil)) (dC (.int 2)))) (dTB (dOp rNe (dOp rIx (dVar 3) (dC (.int 0))) (dVar 2))))) (dRet (dC (.bl false))) dNext) (dSeq (dIfS (dTB (dOp rEq (dOp rIx (dVar 3) (dC (.int 1))) (dC (.str "off")))) (dRet (dNot (dCall sp_counts ex0 (dCons (dVar 0) (dCons (dVar 2) dNil))))) dNext) (dRet (dAnd (dOp rEq (dOp rIx (dVar 3) (dC (.int 1))) (dC (.str "apart"))) (dNot (dCall sp_covers ex0 (dCons (dVar 0) (dCons (dVar 2) (dCons (dVar 1) dNil)))))))))
theorem sc_is_row : FnScope N_is_row ps_is_row (defScope (top 22)) := ⟨rfl, rfl, rfl, by decide +kernel, rfl, by decide +kernel, by decide +kernel⟩
theorem der_is_row {P : Program} {w : World} {K : PySem.W.Frag} {mg : Str → Option Value} {base : Heap} (g_isinstance : mg "isinstance" = none) (g_len : mg "len" = none) (g_tuple : mg "tuple" = none) (G_counts : Good P w K mg base "counts" ps_counts 1 sp_counts) (G_covers : Good P w K mg base "covers" ps_covers 3 sp_covers) (f : Addr) (cdv : Value) (A : Around) (outer : List Env) (s : Shared) (H : Hp) (E : XK)
    (hr : Room 3 (A.deeper (envOfC "is_row" (defScope (top 22)) s.heap.objs.size f cdv))) :
    DSs (cxOf CX0 P w K mg base N_is_row "is_row" (defScope (top 22)) f cdv A outer s H E).nox (Rg.top K w) (defBody (top 22)) t_is_row := by
  have S := sc_is_row
  exact (dss_cons (ds_if (dt_w (dw_or (dt_not (dt_truth (de_callB call_isiD rfl g_isinstance rfl (da_cons (de_var (pv 3)) (da_cons (de_ty rfl g_tuple rfl) da_nil))))) (dw_or (dt_cmp (op_neD hr.units) (de_callB call_lenD rfl g_len rfl (da_cons (de_var (pv 3)) da_nil)) de_int (by rfl)) (dw_or1 (dt_cmp (op_neD hr.units) (de_ix (ix_D hr.units) (de_var (pv 3)) de_int) (de_var (pv 2)) (by rfl)))))) (dss_one (ds_ret de_bl)) dss_nil)
    (dss_cons (ds_if (dt_cmp (op_eqD hr.units) (de_ix (ix_D hr.units) (de_var (pv 3)) de_int) de_str (by rfl)) (dss_one (ds_ret (de_not (de_callG G_counts hr rfl (da_cons (de_var (pv 0)) (da_cons (de_var (pv 2)) da_nil)))))) dss_nil)
    (dss_one (ds_ret (de_and (de_cmp (op_eqD hr.units) (de_ix (ix_D hr.units) (de_var (pv 3)) de_int) de_str (by rfl)) (de_one (de_not (de_callG G_covers hr rfl (da_cons (de_var (pv 0)) (da_cons (de_var (pv 2)) (da_cons (de_var (pv 1)) da_nil)))))))))))
theorem bind_is_row (kV doc pm : Value) (an : Option Addr) (cdv ct : Value) (us : List Value) (hl : us.length = ps_is_row.length) : bindArgs (PySem.W.fnOf "is_row" "is_row" (defArgs (top 22)) (defBody (top 22)) (defScope (top 22)) .none kV doc pm an cdv ct) ⟨us, []⟩ = pure (ps_is_row.zip us) := match us, hl with | [_, _, _, _], _ => rfl
theorem len_is_row : ∀ ds G d, rel_is_row ds G d → ds.length = ps_is_row.length := by
  rintro ds G d ⟨L, s, m, b, x, n, rfl, _⟩; rfl
theorem pure_is_row : ∀ ds G d, rel_is_row ds G d → t_is_row { nx := fun _ G' => .non = d ∧ Sub G G', rt := fun d' G' => d' = d ∧ Sub G G' } (dstart N_is_row ds) G := by
  rintro ds G d ⟨L, s, m, b, x, n, rfl, hW, hL, hs, hm, hb, hx, rfl⟩
  simp only [t_is_row, N_is_row, set_app, drop_app, ret_app, asg_app, par_app, par3_app, put_app, next_app, cont_app, break_app, seq_set, seq_drop, seq_ret, seq_asg, seq_par, seq_par3, seq_put, seq_next, dOp, dUn, dVar, dC, dTup, dLst, dNil, dCons, dCall, dCB, dBM, isTy_str, dTB, dAndT, dOrT, dNotT, dAnd, dOr, dNot, dIf, dTru, truth, dChain, dSl, dPart, dNoPart,  dLc,  dRng1, dRng2,  dEnumT, dgName, dgTup, dgCons, dgNil, dDct0, dYes, dwipe, dstart, rAdd_int, rAdd_str, rAdd_tup, rSub_int, rMul_int, rMod_int, rFdiv_int, rNeg_int, rIs_non, rIsNot_non, rIs_bl, DD.isNonD, isi_tuple_non, isi_tuple_bl, isi_tuple_int, isi_tuple_str, isi_tuple_tup, isi_bool_non, isi_bool_bl, isi_bool_int, isi_bool_str, isi_bool_tup, isi_int_non, isi_int_bl, isi_int_int, isi_int_str, isi_int_tup, isi_str_non, isi_str_bl, isi_str_int, isi_str_str, isi_str_tup, isi_list_non, isi_list_bl, isi_list_int, isi_list_str, isi_list_tup, isi_is_int, isi_is_str, isi_is_non, isi_is_tup, rIx_str, rIx_tup, rIx_scr, rLen_str, rLen_tup, rLen_scr, rTuple_tup, rList_tup, rIn_s1, rIn_s2, rIn_s3, rMax2_int, rMin2_int, rInt1_int, rSl_str, rSl_tup, rev_app, revK_tup, seqX_app, seqK_tup, seqK_str, zip_app, zipK_tup, rLt_int, rLe_int, rGt_int, rGe_int, rLt_str, rLe_str, rGt_str, rGe_str, rOrd_encS, DD.rEq_int, DD.rEq_str, DD.rEq_bl, DD.rNe_int, DD.rNe_str, rEq_encS, rEq_encO, rEq_OS, atI_0, atI_1, atI_2, atI_3, atI_4, atI_5, atI_snoc, ob_some, gup_same, List.map_cons, List.map_nil, List.length_cons, List.length_nil, List.cons_append, List.nil_append, List.getElem?_cons_zero, List.getElem?_cons_succ, List.set_cons_zero, List.set_cons_succ, List.replicate_zero, List.replicate_succ, Nat.reduceSub, Nat.reduceAdd, if_true, if_false, Bool.false_eq_true, Bool.not_true, Bool.not_false, true_and, and_true]
  rw [seq_if]
  simp only [set_app, drop_app, ret_app, asg_app, par_app, par3_app, put_app, next_app, cont_app, break_app, seq_set, seq_drop, seq_ret, seq_asg, seq_par, seq_par3, seq_put, seq_next, dOp, dUn, dVar, dC, dTup, dLst, dNil, dCons, dCall, dCB, dBM, isTy_str, dTB, dAndT, dOrT, dNotT, dAnd, dOr, dNot, dIf, dTru, truth, dChain, dSl, dPart, dNoPart,  dLc,  dRng1, dRng2,  dEnumT, dgName, dgTup, dgCons, dgNil, dDct0, dYes, dwipe, dstart, rAdd_int, rAdd_str, rAdd_tup, rSub_int, rMul_int, rMod_int, rFdiv_int, rNeg_int, rIs_non, rIsNot_non, rIs_bl, DD.isNonD, isi_tuple_non, isi_tuple_bl, isi_tuple_int, isi_tuple_str, isi_tuple_tup, isi_bool_non, isi_bool_bl, isi_bool_int, isi_bool_str, isi_bool_tup, isi_int_non, isi_int_bl, isi_int_int, isi_int_str, isi_int_tup, isi_str_non, isi_str_bl, isi_str_int, isi_str_str, isi_str_tup, isi_list_non, isi_list_bl, isi_list_int, isi_list_str, isi_list_tup, isi_is_int, isi_is_str, isi_is_non, isi_is_tup, rIx_str, rIx_tup, rIx_scr, rLen_str, rLen_tup, rLen_scr, rTuple_tup, rList_tup, rIn_s1, rIn_s2, rIn_s3, rMax2_int, rMin2_int, rInt1_int, rSl_str, rSl_tup, rev_app, revK_tup, seqX_app, seqK_tup, seqK_str, zip_app, zipK_tup, rLt_int, rLe_int, rGt_int, rGe_int, rLt_str, rLe_str, rGt_str, rGe_str, rOrd_encS, DD.rEq_int, DD.rEq_str, DD.rEq_bl, DD.rNe_int, DD.rNe_str, rEq_encS, rEq_encO, rEq_OS, atI_0, atI_1, atI_2, atI_3, atI_4, atI_5, atI_snoc, ob_some, gup_same, List.map_cons, List.map_nil, List.length_cons, List.length_nil, List.cons_append, List.nil_append, List.getElem?_cons_zero, List.getElem?_cons_succ, List.set_cons_zero, List.set_cons_succ, List.replicate_zero, List.replicate_succ, Nat.reduceSub, Nat.reduceAdd, if_true, if_false, Bool.false_eq_true, Bool.not_true, Bool.not_false, true_and, and_true]
  rw [isi_th hx]
  cases n with
  | zero => exact hx.elim
  | succ n =>
  cases x with
  | tup xs =>
    have hx : ∀ x ∈ xs, Th G n x := hx
    simp only [isTupD, ob_some, Bool.not_true, Bool.false_eq_true, if_false]
    rw [rLen_tup, DD.rNe_int]
    by_cases hl : xs.length = 2
    · obtain ⟨y, z, rfl⟩ := two_of hl
      have e2 : (!((([y, z] : List D).length : Int) == 2)) = false := rfl
      rw [e2]
      simp only [Bool.false_eq_true, if_false]
      rw [rIx_tup, atI_0, ob_some, rNe_th (hx y List.mem_cons_self) rfl (Nat.le_trans (Nat.le_of_eq (dp_encS _)) (by decide))]
      dsimp only [rowM]
      cases h1 : eqG G y (encS m.st) with
      | false => exact ⟨rfl, Sub.refl⟩
      | true =>
        simp only [Bool.not_true, Bool.false_eq_true, if_false, Bool.true_and]
        rw [seq_if]
        simp only [set_app, drop_app, ret_app, asg_app, par_app, par3_app, put_app, next_app, cont_app, break_app, seq_set, seq_drop, seq_ret, seq_asg, seq_par, seq_par3, seq_put, seq_next, dOp, dUn, dVar, dC, dTup, dLst, dNil, dCons, dCall, dCB, dBM, isTy_str, dTB, dAndT, dOrT, dNotT, dAnd, dOr, dNot, dIf, dTru, truth, dChain, dSl, dPart, dNoPart,  dLc,  dRng1, dRng2,  dEnumT, dgName, dgTup, dgCons, dgNil, dDct0, dYes, dwipe, dstart, rAdd_int, rAdd_str, rAdd_tup, rSub_int, rMul_int, rMod_int, rFdiv_int, rNeg_int, rIs_non, rIsNot_non, rIs_bl, DD.isNonD, isi_tuple_non, isi_tuple_bl, isi_tuple_int, isi_tuple_str, isi_tuple_tup, isi_bool_non, isi_bool_bl, isi_bool_int, isi_bool_str, isi_bool_tup, isi_int_non, isi_int_bl, isi_int_int, isi_int_str, isi_int_tup, isi_str_non, isi_str_bl, isi_str_int, isi_str_str, isi_str_tup, isi_list_non, isi_list_bl, isi_list_int, isi_list_str, isi_list_tup, isi_is_int, isi_is_str, isi_is_non, isi_is_tup, rIx_str, rIx_tup, rIx_scr, rLen_str, rLen_tup, rLen_scr, rTuple_tup, rList_tup, rIn_s1, rIn_s2, rIn_s3, rMax2_int, rMin2_int, rInt1_int, rSl_str, rSl_tup, rev_app, revK_tup, seqX_app, seqK_tup, seqK_str, zip_app, zipK_tup, rLt_int, rLe_int, rGt_int, rGe_int, rLt_str, rLe_str, rGt_str, rGe_str, rOrd_encS, DD.rEq_int, DD.rEq_str, DD.rEq_bl, DD.rNe_int, DD.rNe_str, rEq_encS, rEq_encO, rEq_OS, atI_0, atI_1, atI_2, atI_3, atI_4, atI_5, atI_snoc, ob_some, gup_same, List.map_cons, List.map_nil, List.length_cons, List.length_nil, List.cons_append, List.nil_append, List.getElem?_cons_zero, List.getElem?_cons_succ, List.set_cons_zero, List.set_cons_succ, List.replicate_zero, List.replicate_succ, Nat.reduceSub, Nat.reduceAdd, if_true, if_false, Bool.false_eq_true, Bool.not_true, Bool.not_false, true_and, and_true]
        have hz := hx z (List.mem_cons_of_mem _ List.mem_cons_self)
        rw [rEq_th hz rfl (by show 0 ≤ 60; omega)]
        cases h2 : eqG G z (.str "off") with
        | true =>
          simp only [if_true]
          refine counts_use hW hL ?_
          exact ⟨rfl, Sub.refl⟩
        | false =>
          simp only [Bool.false_eq_true, if_false]
          rw [rEq_th hz rfl (by show 0 ≤ 60; omega)]
          cases h3 : eqG G z (.str "apart") with
          | true =>
            simp only [ob_some, if_true]
            refine covers_use hW hL hm hb hs ?_
            exact ⟨rfl, Sub.refl⟩
          | false => exact ⟨rfl, Sub.refl⟩
    · have e2 : (!((xs.length : Int) == 2)) = true := by
        rw [Bool.not_eq_true', beq_eq_false_iff_ne]
        omega
      rw [e2]
      simp only [if_true]
      refine ⟨?_, Sub.refl⟩
      unfold rowM
      split
      · rename_i y z q
        cases q
        exact (hl rfl).elim
      · rfl
  | _ =>
    simp only [isTupD, ob_some, Bool.not_false, if_true]
    exact ⟨rfl, Sub.refl⟩
theorem good_is_row {P : Program} {w : World} {K : PySem.W.Frag} {mg : Str → Option Value} {base : Heap} (D0 : DefAt K mg "is_row" (top 22)) (g_isinstance : mg "isinstance" = none) (g_len : mg "len" = none) (g_tuple : mg "tuple" = none) (G_counts : Good P w K mg base "counts" ps_counts 1 sp_counts) (G_covers : Good P w K mg base "covers" ps_covers 3 sp_covers) : Good P w K mg base "is_row" ps_is_row 4 sp_is_row :=
  goodF D0 sc_is_row t_is_row bind_is_row len_is_row (fun f cdv A outer s H E hr => der_is_row g_isinstance g_len g_tuple G_counts G_covers f cdv A outer s H E hr) pure_is_row
theorem row_use {L : List Deed} {s : Stp} {m : Deed} {b : Bool} {x : D} {n : Nat} {G : DG} {Q : DK} {RE : DX} (hW : Wf L) (hL : L.length ≤ 1000) (hs : s ∈ lets L) (hm : m ∈ L) (hb : isMk b m = true) (hx : Th G n x) (q : Q (.bl (rowM G (M.counts L m.st) (covD L s m) m.st x)) G) : sp_is_row [.tup (L.map M.encD), encS s, encS m.st, x] G Q RE := ⟨_, ⟨L, s, m, b, x, n, rfl, hW, hL, hs, hm, hb, hx, rfl⟩, q⟩
/-! ### is_paper -/
/-- a mark told by a thing is that very stamp -/
def HM (G : DG) (L : List Deed) (x : D) : Prop := ∀ y ys, x = .tup (y :: ys) → ∀ d ∈ L, eqG G y (encS d.st) = true → y = encS d.st
def rel_is_paper (ds : List D) (G : DG) (d : D) : Prop := ∃ (L : List Deed) (s : Stp) (b : Bool) (x : D) (n : Nat), ds = [D.tup (L.map M.encD), encS s, .str (kin b), x] ∧ Wf L ∧ L.length ≤ 1000 ∧ s ∈ lets L ∧ Th G n x ∧ HM G L x ∧ d = .bl (papM G L b s x)
def sp_is_paper : DSp := spF rel_is_paper
abbrev N_is_paper : List Str := ["deeds", "stamp", "kind", "thing", "mark", "rows", "later", "some", "deed", "other", "row"]
abbrev ps_is_paper : List Str := ["deeds", "stamp", "kind", "thing"]
def t_is_paper : DTS :=
  (dSeq (dIfS (dOrT (dNotT (dTru (dCB rIsi (dCons (dVar 3) (dCons (dC (.ty "tuple")) dNil))))) (dOrT (dTB (dOp rNe (dCB rLen (dCons (dVar 3) dNil)) (dC (.int 2)))) (dNotT (dTru (dCB rIsi (dCons (dOp rIx (dVar 3) (dC (.int 1))) (dCons (dC (.ty "tuple")) dNil))))))) (dRet (dC (.bl false))) dNext) (dSeq (dAsg (dVar 3) (dgTup 2 (dgCons (dgName 4) (dgCons (dgName 5) dgNil)))) (dSeq (dIfS (dTB (dOp rIsNot (dVar 4) (dC .non))) (dSeq (dSet 7 (dLc (dSeqX (dCall sp_marks_of ex0 (dCons (dVar 0) (dCons (dVar 2) dNil)))) (dgName 8) (dTB (dOp rEq (dOp rIx (dVar 8) (dC (.int 1))) (dVar 4))) (dVar 8) [8])) (dIfS (dOrT (dNotT (dTru (dVar 7))) (dOrT (dNotT (dTru (dCall sp_counts ex0 (dCons (dVar 0) (dCons (dOp rIx (dOp rIx (dVar 7) (dC (.int 0))) (dC (.int 1))) dNil))))) (dNotT (dTru (dCall sp_covers ex0 (dCons (dVar 0) (dCons (dOp rIx (dOp rIx (dVar 7) (dC (.int 0))) (dC (.int 1))) (dCons (dVar 1) dNil)))))))) (dRet (dC (.bl false))) dNext)) dNext) (dSeq (dSet 6 (dCall sp_later_marks ex0 (dCons (dVar 0) (dCons (dVar 2) (dCons (dVar 4) dNil))))) (dRet (dAnd (dOp rEq (dCB rLen (dCons (dVar 5) dNil)) (dCB rLen (dCons (dVar 6) dNil))) (dCB rAll (dCons (dLc (dZipM (dCons (dVar 6) (dCons (dVar 5) dNil))) (dgTup 2 (dgCons (dgName 9) (dgCons (dgName 10) dgNil))) dYes (dCall sp_is_row ex0 (dCons (dVar 0) (dCons (dVar 1) (dCons (dVar 9) (dCons (dVar 10) dNil))))) [9, 10]) dNil))))))))
theorem sc_is_paper : FnScope N_is_paper ps_is_paper (defScope (top 23)) := ⟨rfl, rfl, rfl, by decide +kernel, rfl, by decide +kernel, by decide +kernel⟩
theorem der_is_paper {P : Program} {w : World} {K : PySem.W.Frag} {mg : Str → Option Value} {base : Heap} (g_all : mg "all" = none) (g_isinstance : mg "isinstance" = none) (g_len : mg "len" = none) (g_tuple : mg "tuple" = none) (g_zip : mg "zip" = none) (G_counts : Good P w K mg base "counts" ps_counts 1 sp_counts) (G_covers : Good P w K mg base "covers" ps_covers 3 sp_covers) (G_is_row : Good P w K mg base "is_row" ps_is_row 4 sp_is_row) (G_later_marks : Good P w K mg base "later_marks" ps_later_marks 2 sp_later_marks) (G_marks_of : Good P w K mg base "marks_of" ps_marks_of 1 sp_marks_of) (f : Addr) (cdv : Value) (A : Around) (outer : List Env) (s : Shared) (H : Hp) (E : XK)
    (hr : Room 4 (A.deeper (envOfC "is_paper" (defScope (top 23)) s.heap.objs.size f cdv))) :
    DSs (cxOf CX0 P w K mg base N_is_paper "is_paper" (defScope (top 23)) f cdv A outer s H E).nox (Rg.top K w) (defBody (top 23)) t_is_paper := by
  have S := sc_is_paper
  exact (dss_cons (ds_if (dt_w (dw_or (dt_not (dt_truth (de_callB call_isiD rfl g_isinstance rfl (da_cons (de_var (pv 3)) (da_cons (de_ty rfl g_tuple rfl) da_nil))))) (dw_or (dt_cmp (op_neD hr.units) (de_callB call_lenD rfl g_len rfl (da_cons (de_var (pv 3)) da_nil)) de_int (by rfl)) (dw_or1 (dt_not (dt_truth (de_callB call_isiD rfl g_isinstance rfl (da_cons (de_ix (ix_D hr.units) (de_var (pv 3)) de_int) (da_cons (de_ty rfl g_tuple rfl) da_nil))))))))) (dss_one (ds_ret de_bl)) dss_nil)
    (dss_cons (ds_asg (vs := [4, 5]) (de_var (pv 3)) (dg_tup rfl (dgs_cons (dg_name (pg_name (i := 4) S.nd rfl (by first | exact Or.inl rfl | exact Or.inr rfl)) (by decide) (by decide)) (dgs_cons (dg_name (pg_name (i := 5) S.nd rfl (by first | exact Or.inl rfl | exact Or.inr rfl)) (by decide) (by decide)) dgs_nil))))
    (dss_cons (ds_if (dt_cmp op_isNotD (de_var (pv 4)) de_non (by rfl)) (dss_cons (ds_setLc (i := 7) (own := [("deed", 8)]) rfl S.nd rfl rfl rfl (di_seq (de_callG G_marks_of hr rfl (da_cons (de_var (pv 0)) (da_cons (de_var (pv 2)) da_nil)))) (show BlkOk N_is_paper (defScope (top 23)) _ _ from ⟨rfl, by decide +kernel, by decide +kernel, by decide +kernel, by decide +kernel⟩) (fun _ _ _ _ _ => (dg_name (pg_name (i := 8) S.nd rfl (by first | exact Or.inl rfl | exact Or.inr rfl)) (by decide) (by decide))) (fun _ _ _ _ _ => (dts_one (dt_cmp (op_eqD hr.units) (de_ix (ix_D hr.units) (de_var (pv 8)) de_int) (de_var (pv 4)) (by rfl)))) (fun _ _ _ _ _ => (de_var (pv 8))))
    (dss_one (ds_if (dt_w (dw_or (dt_not (dt_truth (de_var (pv 7)))) (dw_or (dt_not (dt_truth (de_callG G_counts hr rfl (da_cons (de_var (pv 0)) (da_cons (de_ix (ix_D hr.units) (de_ix (ix_D hr.units) (de_var (pv 7)) de_int) de_int) da_nil))))) (dw_or1 (dt_not (dt_truth (de_callG G_covers hr rfl (da_cons (de_var (pv 0)) (da_cons (de_ix (ix_D hr.units) (de_ix (ix_D hr.units) (de_var (pv 7)) de_int) de_int) (da_cons (de_var (pv 1)) da_nil)))))))))) (dss_one (ds_ret de_bl)) dss_nil))) dss_nil)
    (dss_cons (ds_set (i := 6) S.nd rfl (by first | exact Or.inl rfl | exact Or.inr rfl) (de_callG G_later_marks hr rfl (da_cons (de_var (pv 0)) (da_cons (de_var (pv 2)) (da_cons (de_var (pv 4)) da_nil)))))
    (dss_one (ds_ret (de_and (de_cmp (op_eqD hr.units) (de_callB call_lenD rfl g_len rfl (da_cons (de_var (pv 5)) da_nil)) (de_callB call_lenD rfl g_len rfl (da_cons (de_var (pv 6)) da_nil)) (by rfl)) (de_one (de_callB (call_allD rfl) rfl g_all rfl (da_cons (de_lc (own := [("other", 9), ("row", 10)]) rfl S.nd (di_zipM rfl g_zip (da_cons (de_var (pv 6)) (da_cons (de_var (pv 5)) da_nil))) (show BlkOk N_is_paper (defScope (top 23)) _ _ from ⟨rfl, by decide +kernel, by decide +kernel, by decide +kernel, by decide +kernel⟩) (fun _ _ _ _ _ => (dg_tup rfl (dgs_cons (dg_name (pg_name (i := 9) S.nd rfl (by first | exact Or.inl rfl | exact Or.inr rfl)) (by decide) (by decide)) (dgs_cons (dg_name (pg_name (i := 10) S.nd rfl (by first | exact Or.inl rfl | exact Or.inr rfl)) (by decide) (by decide)) dgs_nil)))) (fun _ _ _ _ _ => dts_nil) (fun _ _ _ _ _ => (de_callG G_is_row hr rfl (da_cons (de_var (pv 0)) (da_cons (de_var (pv 1)) (da_cons (de_var (pv 9)) (da_cons (de_var (pv 10)) da_nil))))))) da_nil))))))))))
theorem bind_is_paper (kV doc pm : Value) (an : Option Addr) (cdv ct : Value) (us : List Value) (hl : us.length = ps_is_paper.length) : bindArgs (PySem.W.fnOf "is_paper" "is_paper" (defArgs (top 23)) (defBody (top 23)) (defScope (top 23)) .none kV doc pm an cdv ct) ⟨us, []⟩ = pure (ps_is_paper.zip us) := match us, hl with | [_, _, _, _], _ => rfl
theorem len_is_paper : ∀ ds G d, rel_is_paper ds G d → ds.length = ps_is_paper.length := by
  rintro ds G d ⟨L, s, b, x, n, rfl, _⟩; rfl
theorem rowM_sub {G G' : DG} (h : Sub G G') {n : Nat} {x : D} (hx : Th G n x) (c v : Bool) (o : Stp) : rowM G' c v o x = rowM G c v o x := by
  cases n with
  | zero => exact hx.elim
  | succ n =>
  unfold rowM
  split
  · rename_i y z
    have hx : ∀ x ∈ [y, z], Th G n x := hx
    rw [eqG_sub h (hx y List.mem_cons_self), eqG_sub h (hx z (List.mem_cons_of_mem _ List.mem_cons_self)), eqG_sub h (hx z (List.mem_cons_of_mem _ List.mem_cons_self))]
  · rfl
theorem papM_some {G : DG} {L : List Deed} {b : Bool} {s : Stp} {y : D} {rows : List D} (h : isNonD y = false) : papM G L b s (.tup [y, .tup rows]) = (match (mks L b).find? fun d => eqG G y (encS d.st) with
    | none => false
    | some m => M.counts L m.st && covD L s m && rowsM G L s (latD L b (some m.st)) rows) := by
  cases y <;> first | rfl | cases h
theorem mks_mem {L : List Deed} {b : Bool} {m : Deed} (h : m ∈ mks L b) : m ∈ L ∧ isMk b m = true := by
  obtain ⟨h3, h4⟩ := List.mem_filter.mp (List.mem_reverse.mp h)
  exact ⟨h3, h4⟩
theorem pure_is_paper : ∀ ds G d, rel_is_paper ds G d → t_is_paper { nx := fun _ G' => .non = d ∧ Sub G G', rt := fun d' G' => d' = d ∧ Sub G G' } (dstart N_is_paper ds) G := by
  rintro ds G d ⟨L, s, b, x, n, rfl, hW, hL, hs, hx, hM, rfl⟩
  simp only [t_is_paper, N_is_paper, set_app, drop_app, ret_app, asg_app, par_app, par3_app, put_app, next_app, cont_app, break_app, seq_set, seq_drop, seq_ret, seq_asg, seq_par, seq_par3, seq_put, seq_next, dOp, dUn, dVar, dC, dTup, dLst, dNil, dCons, dCall, dCB, dBM, isTy_str, dTB, dAndT, dOrT, dNotT, dAnd, dOr, dNot, dIf, dTru, truth, dChain, dSl, dPart, dNoPart,  dLc,  dRng1, dRng2,  dEnumT, dgName, dgTup, dgCons, dgNil, dDct0, dYes, dwipe, dstart, rAdd_int, rAdd_str, rAdd_tup, rSub_int, rMul_int, rMod_int, rFdiv_int, rNeg_int, rIs_non, rIsNot_non, rIs_bl, DD.isNonD, isi_tuple_non, isi_tuple_bl, isi_tuple_int, isi_tuple_str, isi_tuple_tup, isi_bool_non, isi_bool_bl, isi_bool_int, isi_bool_str, isi_bool_tup, isi_int_non, isi_int_bl, isi_int_int, isi_int_str, isi_int_tup, isi_str_non, isi_str_bl, isi_str_int, isi_str_str, isi_str_tup, isi_list_non, isi_list_bl, isi_list_int, isi_list_str, isi_list_tup, isi_is_int, isi_is_str, isi_is_non, isi_is_tup, rIx_str, rIx_tup, rIx_scr, rLen_str, rLen_tup, rLen_scr, rTuple_tup, rList_tup, rIn_s1, rIn_s2, rIn_s3, rMax2_int, rMin2_int, rInt1_int, rSl_str, rSl_tup, rev_app, revK_tup, seqX_app, seqK_tup, seqK_str, zip_app, zipK_tup, rLt_int, rLe_int, rGt_int, rGe_int, rLt_str, rLe_str, rGt_str, rGe_str, rOrd_encS, DD.rEq_int, DD.rEq_str, DD.rEq_bl, DD.rNe_int, DD.rNe_str, rEq_encS, rEq_encO, rEq_OS, atI_0, atI_1, atI_2, atI_3, atI_4, atI_5, atI_snoc, ob_some, gup_same, List.map_cons, List.map_nil, List.length_cons, List.length_nil, List.cons_append, List.nil_append, List.getElem?_cons_zero, List.getElem?_cons_succ, List.set_cons_zero, List.set_cons_succ, List.replicate_zero, List.replicate_succ, Nat.reduceSub, Nat.reduceAdd, if_true, if_false, Bool.false_eq_true, Bool.not_true, Bool.not_false, true_and, and_true]
  rw [seq_if]
  simp only [set_app, drop_app, ret_app, asg_app, par_app, par3_app, put_app, next_app, cont_app, break_app, seq_set, seq_drop, seq_ret, seq_asg, seq_par, seq_par3, seq_put, seq_next, dOp, dUn, dVar, dC, dTup, dLst, dNil, dCons, dCall, dCB, dBM, isTy_str, dTB, dAndT, dOrT, dNotT, dAnd, dOr, dNot, dIf, dTru, truth, dChain, dSl, dPart, dNoPart,  dLc,  dRng1, dRng2,  dEnumT, dgName, dgTup, dgCons, dgNil, dDct0, dYes, dwipe, dstart, rAdd_int, rAdd_str, rAdd_tup, rSub_int, rMul_int, rMod_int, rFdiv_int, rNeg_int, rIs_non, rIsNot_non, rIs_bl, DD.isNonD, isi_tuple_non, isi_tuple_bl, isi_tuple_int, isi_tuple_str, isi_tuple_tup, isi_bool_non, isi_bool_bl, isi_bool_int, isi_bool_str, isi_bool_tup, isi_int_non, isi_int_bl, isi_int_int, isi_int_str, isi_int_tup, isi_str_non, isi_str_bl, isi_str_int, isi_str_str, isi_str_tup, isi_list_non, isi_list_bl, isi_list_int, isi_list_str, isi_list_tup, isi_is_int, isi_is_str, isi_is_non, isi_is_tup, rIx_str, rIx_tup, rIx_scr, rLen_str, rLen_tup, rLen_scr, rTuple_tup, rList_tup, rIn_s1, rIn_s2, rIn_s3, rMax2_int, rMin2_int, rInt1_int, rSl_str, rSl_tup, rev_app, revK_tup, seqX_app, seqK_tup, seqK_str, zip_app, zipK_tup, rLt_int, rLe_int, rGt_int, rGe_int, rLt_str, rLe_str, rGt_str, rGe_str, rOrd_encS, DD.rEq_int, DD.rEq_str, DD.rEq_bl, DD.rNe_int, DD.rNe_str, rEq_encS, rEq_encO, rEq_OS, atI_0, atI_1, atI_2, atI_3, atI_4, atI_5, atI_snoc, ob_some, gup_same, List.map_cons, List.map_nil, List.length_cons, List.length_nil, List.cons_append, List.nil_append, List.getElem?_cons_zero, List.getElem?_cons_succ, List.set_cons_zero, List.set_cons_succ, List.replicate_zero, List.replicate_succ, Nat.reduceSub, Nat.reduceAdd, if_true, if_false, Bool.false_eq_true, Bool.not_true, Bool.not_false, true_and, and_true]
  rw [isi_th hx]
  cases n with
  | zero => exact hx.elim
  | succ n =>
  cases x with
  | tup xs =>
    have hxs : ∀ x ∈ xs, Th G n x := hx
    simp only [isTupD, ob_some, Bool.not_true, Bool.false_eq_true, if_false]
    rw [rLen_tup, DD.rNe_int]
    by_cases hl : xs.length = 2
    · obtain ⟨y, z, rfl⟩ := two_of hl
      have hy := hxs y List.mem_cons_self
      have hz := hxs z (List.mem_cons_of_mem _ List.mem_cons_self)
      have e2 : (!((([y, z] : List D).length : Int) == 2)) = false := rfl
      rw [e2]
      simp only [Bool.false_eq_true, if_false]
      rw [rIx_tup, atI_1, ob_some, isi_th hz]
      cases n with
      | zero => exact hz.elim
      | succ n =>
      cases z with
      | tup rows =>
        have hrows : ∀ x ∈ rows, Th G n x := hz
        simp only [isTupD, ob_some, Bool.not_true, Bool.false_eq_true, if_false]
        refine ⟨rfl, ?_⟩
        refine seq_cut (fun δ G' => Sub G G' ∧ ∃ (o : Option Stp) (r7 : Option D), papM G L b s (.tup [y, .tup rows]) = rowsM G L s (latD L b o) rows ∧ δ = [some (.tup (L.map M.encD)), some (encS s), some (.str (kin b)), some (.tup [y, .tup rows]), some (encO o), some (.tup rows), none, r7, none, none, none]) (fun F hF => ?_) (fun δ G' h => ?_)
        · rw [if_app]
          simp only [set_app, drop_app, ret_app, asg_app, par_app, par3_app, put_app, next_app, cont_app, break_app, seq_set, seq_drop, seq_ret, seq_asg, seq_par, seq_par3, seq_put, seq_next, dOp, dUn, dVar, dC, dTup, dLst, dNil, dCons, dCall, dCB, dBM, isTy_str, dTB, dAndT, dOrT, dNotT, dAnd, dOr, dNot, dIf, dTru, truth, dChain, dSl, dPart, dNoPart,  dLc,  dRng1, dRng2,  dEnumT, dgName, dgTup, dgCons, dgNil, dDct0, dYes, dwipe, dstart, rAdd_int, rAdd_str, rAdd_tup, rSub_int, rMul_int, rMod_int, rFdiv_int, rNeg_int, rIs_non, rIsNot_non, rIs_bl, DD.isNonD, isi_tuple_non, isi_tuple_bl, isi_tuple_int, isi_tuple_str, isi_tuple_tup, isi_bool_non, isi_bool_bl, isi_bool_int, isi_bool_str, isi_bool_tup, isi_int_non, isi_int_bl, isi_int_int, isi_int_str, isi_int_tup, isi_str_non, isi_str_bl, isi_str_int, isi_str_str, isi_str_tup, isi_list_non, isi_list_bl, isi_list_int, isi_list_str, isi_list_tup, isi_is_int, isi_is_str, isi_is_non, isi_is_tup, rIx_str, rIx_tup, rIx_scr, rLen_str, rLen_tup, rLen_scr, rTuple_tup, rList_tup, rIn_s1, rIn_s2, rIn_s3, rMax2_int, rMin2_int, rInt1_int, rSl_str, rSl_tup, rev_app, revK_tup, seqX_app, seqK_tup, seqK_str, zip_app, zipK_tup, rLt_int, rLe_int, rGt_int, rGe_int, rLt_str, rLe_str, rGt_str, rGe_str, rOrd_encS, DD.rEq_int, DD.rEq_str, DD.rEq_bl, DD.rNe_int, DD.rNe_str, rEq_encS, rEq_encO, rEq_OS, atI_0, atI_1, atI_2, atI_3, atI_4, atI_5, atI_snoc, ob_some, gup_same, List.map_cons, List.map_nil, List.length_cons, List.length_nil, List.cons_append, List.nil_append, List.getElem?_cons_zero, List.getElem?_cons_succ, List.set_cons_zero, List.set_cons_succ, List.replicate_zero, List.replicate_succ, Nat.reduceSub, Nat.reduceAdd, if_true, if_false, Bool.false_eq_true, Bool.not_true, Bool.not_false, true_and, and_true]
          show if (!isNonD y) = true then _ else _
          cases hn : isNonD y with
          | true =>
            simp only [Bool.not_true, Bool.false_eq_true, if_false]
            have ey : y = .non := by cases y <;> first | rfl | cases hn
            subst ey
            exact hF _ _ ⟨Sub.refl, none, none, rfl, rfl⟩
          | false =>
            simp only [Bool.not_false, if_true]
            rw [papM_some hn]
            refine marks_use hW hL fun p hp => ?_
            rw [seqK_lst gup_same]
            refine lcL_ind (fun i acc G1 => acc = (((mks L b).take i).filter fun d => eqG G y (encS d.st)).map M.encD ∧ Sub G G1 ∧ G1 p = some (.lst ((mks L b).map M.encD))) ?_ ?_ _ _ ⟨rfl, Sub.refl.new hp, gup_same⟩
            · rintro i d F3 hd hF3 acc G1 ⟨rfl, hS, hG⟩
              obtain ⟨e, he, rfl, hm⟩ := map_get hd
              refine ⟨hG, ?_⟩
              simp only [set_app, drop_app, ret_app, asg_app, par_app, par3_app, put_app, next_app, cont_app, break_app, seq_set, seq_drop, seq_ret, seq_asg, seq_par, seq_par3, seq_put, seq_next, dOp, dUn, dVar, dC, dTup, dLst, dNil, dCons, dCall, dCB, dBM, isTy_str, dTB, dAndT, dOrT, dNotT, dAnd, dOr, dNot, dIf, dTru, truth, dChain, dSl, dPart, dNoPart,  dLc,  dRng1, dRng2,  dEnumT, dgName, dgTup, dgCons, dgNil, dDct0, dYes, dwipe, dstart, rAdd_int, rAdd_str, rAdd_tup, rSub_int, rMul_int, rMod_int, rFdiv_int, rNeg_int, rIs_non, rIsNot_non, rIs_bl, DD.isNonD, isi_tuple_non, isi_tuple_bl, isi_tuple_int, isi_tuple_str, isi_tuple_tup, isi_bool_non, isi_bool_bl, isi_bool_int, isi_bool_str, isi_bool_tup, isi_int_non, isi_int_bl, isi_int_int, isi_int_str, isi_int_tup, isi_str_non, isi_str_bl, isi_str_int, isi_str_str, isi_str_tup, isi_list_non, isi_list_bl, isi_list_int, isi_list_str, isi_list_tup, isi_is_int, isi_is_str, isi_is_non, isi_is_tup, rIx_str, rIx_tup, rIx_scr, rLen_str, rLen_tup, rLen_scr, rTuple_tup, rList_tup, rIn_s1, rIn_s2, rIn_s3, rMax2_int, rMin2_int, rInt1_int, rSl_str, rSl_tup, rev_app, revK_tup, seqX_app, seqK_tup, seqK_str, zip_app, zipK_tup, rLt_int, rLe_int, rGt_int, rGe_int, rLt_str, rLe_str, rGt_str, rGe_str, rOrd_encS, DD.rEq_int, DD.rEq_str, DD.rEq_bl, DD.rNe_int, DD.rNe_str, rEq_encS, rEq_encO, rEq_OS, atI_0, atI_1, atI_2, atI_3, atI_4, atI_5, atI_snoc, ob_some, gup_same, List.map_cons, List.map_nil, List.length_cons, List.length_nil, List.cons_append, List.nil_append, List.getElem?_cons_zero, List.getElem?_cons_succ, List.set_cons_zero, List.set_cons_succ, List.replicate_zero, List.replicate_succ, Nat.reduceSub, Nat.reduceAdd, if_true, if_false, Bool.false_eq_true, Bool.not_true, Bool.not_false, true_and, and_true]
              obtain ⟨q, eq, q1, q0⟩ := atI_at1 (d := e)
              rw [eq, rIx_tup, q1, ob_some, ← eq, rEq_ht (hy.sub hS) rfl (Nat.le_trans (Nat.le_of_eq (dp_encS _)) (by decide)), eqG_sub hS hy]
              cases h : eqG G y (encS e.st) with
              | true =>
                simp only [if_true]
                refine hF3 _ _ ⟨?_, hS, hG⟩
                rw [take_snoc he, List.filter_append, List.map_append]
                simp [h]
              | false =>
                simp only [Bool.false_eq_true, if_false]
                refine hF3 _ _ ⟨?_, hS, hG⟩
                rw [take_snoc he, List.filter_append, List.map_append]
                simp [h]
            rintro acc G1 ⟨rfl, hS, hG⟩
            refine ⟨hG, fun p2 hp2 => ?_⟩
            rw [List.length_map, List.take_length]
            rw [if_app]
            simp only [set_app, drop_app, ret_app, asg_app, par_app, par3_app, put_app, next_app, cont_app, break_app, seq_set, seq_drop, seq_ret, seq_asg, seq_par, seq_par3, seq_put, seq_next, dOp, dUn, dVar, dC, dTup, dLst, dNil, dCons, dCall, dCB, dBM, isTy_str, dTB, dAndT, dOrT, dNotT, dAnd, dOr, dNot, dIf, dTru, truth, dChain, dSl, dPart, dNoPart,  dLc,  dRng1, dRng2,  dEnumT, dgName, dgTup, dgCons, dgNil, dDct0, dYes, dwipe, dstart, rAdd_int, rAdd_str, rAdd_tup, rSub_int, rMul_int, rMod_int, rFdiv_int, rNeg_int, rIs_non, rIsNot_non, rIs_bl, DD.isNonD, isi_tuple_non, isi_tuple_bl, isi_tuple_int, isi_tuple_str, isi_tuple_tup, isi_bool_non, isi_bool_bl, isi_bool_int, isi_bool_str, isi_bool_tup, isi_int_non, isi_int_bl, isi_int_int, isi_int_str, isi_int_tup, isi_str_non, isi_str_bl, isi_str_int, isi_str_str, isi_str_tup, isi_list_non, isi_list_bl, isi_list_int, isi_list_str, isi_list_tup, isi_is_int, isi_is_str, isi_is_non, isi_is_tup, rIx_str, rIx_tup, rIx_scr, rLen_str, rLen_tup, rLen_scr, rTuple_tup, rList_tup, rIn_s1, rIn_s2, rIn_s3, rMax2_int, rMin2_int, rInt1_int, rSl_str, rSl_tup, rev_app, revK_tup, seqX_app, seqK_tup, seqK_str, zip_app, zipK_tup, rLt_int, rLe_int, rGt_int, rGe_int, rLt_str, rLe_str, rGt_str, rGe_str, rOrd_encS, DD.rEq_int, DD.rEq_str, DD.rEq_bl, DD.rNe_int, DD.rNe_str, rEq_encS, rEq_encO, rEq_OS, atI_0, atI_1, atI_2, atI_3, atI_4, atI_5, atI_snoc, ob_some, gup_same, List.map_cons, List.map_nil, List.length_cons, List.length_nil, List.cons_append, List.nil_append, List.getElem?_cons_zero, List.getElem?_cons_succ, List.set_cons_zero, List.set_cons_succ, List.replicate_zero, List.replicate_succ, Nat.reduceSub, Nat.reduceAdd, if_true, if_false, Bool.false_eq_true, Bool.not_true, Bool.not_false, true_and, and_true]
            have hf := List.head?_filter (p := fun d => eqG G y (encS d.st)) (l := mks L b)
            cases hq : (mks L b).filter (fun d => eqG G y (encS d.st)) with
            | nil =>
              rw [hq] at hf
              rw [← hf]
              exact ⟨rfl, hS.new hp2⟩
            | cons m r =>
              rw [hq] at hf
              rw [← hf]
              have hmem : m ∈ (mks L b).filter (fun d => eqG G y (encS d.st)) := by rw [hq]; exact List.mem_cons_self
              obtain ⟨hm1, hm2⟩ := List.mem_filter.mp hmem
              obtain ⟨hmL, hmk⟩ := mks_mem hm1
              have hy2 : y = encS m.st := hM y _ rfl m hmL hm2
              simp only [List.map_cons, List.isEmpty_cons, Bool.not_false, ob_some, Bool.not_true, Bool.false_eq_true, if_false, List.head?_cons]
              obtain ⟨q, eq, q1, q0⟩ := atI_at1 (d := m)
              rw [rIx_lst gup_same, atI_0, ob_some, eq, rIx_tup, q1, ob_some, ← eq]
              refine counts_use hW hL ?_
              cases hc : M.counts L m.st with
              | false =>
                simp only [ob_some, Bool.not_false, if_true]
                exact ⟨rfl, hS.new hp2⟩
              | true =>
                simp only [ob_some, Bool.not_true, Bool.false_eq_true, if_false]
                rw [rIx_lst gup_same, atI_0, ob_some, eq, rIx_tup, q1, ob_some, ← eq]
                refine covers_use hW hL hmL hmk hs ?_
                cases hv : covD L s m with
                | false =>
                  simp only [ob_some, Bool.not_false, if_true]
                  exact ⟨rfl, hS.new hp2⟩
                | true =>
                  simp only [ob_some, Bool.not_true, Bool.false_eq_true, if_false]
                  refine hF _ _ ⟨hS.new hp2, some m.st, some (.ref p2), by rw [papM_some hn, ← hf]; dsimp only [List.head?_cons]; rw [hc, hv]; rfl, ?_⟩
                  show _ = [_, _, _, _, some (encS m.st), _, _, _, _, _, _]
                  rw [← hy2]
        · obtain ⟨hS, o, r7, eo, rfl⟩ := h
          simp only [set_app, drop_app, ret_app, asg_app, par_app, par3_app, put_app, next_app, cont_app, break_app, seq_set, seq_drop, seq_ret, seq_asg, seq_par, seq_par3, seq_put, seq_next, dOp, dUn, dVar, dC, dTup, dLst, dNil, dCons, dCall, dCB, dBM, isTy_str, dTB, dAndT, dOrT, dNotT, dAnd, dOr, dNot, dIf, dTru, truth, dChain, dSl, dPart, dNoPart,  dLc,  dRng1, dRng2,  dEnumT, dgName, dgTup, dgCons, dgNil, dDct0, dYes, dwipe, dstart, rAdd_int, rAdd_str, rAdd_tup, rSub_int, rMul_int, rMod_int, rFdiv_int, rNeg_int, rIs_non, rIsNot_non, rIs_bl, DD.isNonD, isi_tuple_non, isi_tuple_bl, isi_tuple_int, isi_tuple_str, isi_tuple_tup, isi_bool_non, isi_bool_bl, isi_bool_int, isi_bool_str, isi_bool_tup, isi_int_non, isi_int_bl, isi_int_int, isi_int_str, isi_int_tup, isi_str_non, isi_str_bl, isi_str_int, isi_str_str, isi_str_tup, isi_list_non, isi_list_bl, isi_list_int, isi_list_str, isi_list_tup, isi_is_int, isi_is_str, isi_is_non, isi_is_tup, rIx_str, rIx_tup, rIx_scr, rLen_str, rLen_tup, rLen_scr, rTuple_tup, rList_tup, rIn_s1, rIn_s2, rIn_s3, rMax2_int, rMin2_int, rInt1_int, rSl_str, rSl_tup, rev_app, revK_tup, seqX_app, seqK_tup, seqK_str, zip_app, zipK_tup, rLt_int, rLe_int, rGt_int, rGe_int, rLt_str, rLe_str, rGt_str, rGe_str, rOrd_encS, DD.rEq_int, DD.rEq_str, DD.rEq_bl, DD.rNe_int, DD.rNe_str, rEq_encS, rEq_encO, rEq_OS, atI_0, atI_1, atI_2, atI_3, atI_4, atI_5, atI_snoc, ob_some, gup_same, List.map_cons, List.map_nil, List.length_cons, List.length_nil, List.cons_append, List.nil_append, List.getElem?_cons_zero, List.getElem?_cons_succ, List.set_cons_zero, List.set_cons_succ, List.replicate_zero, List.replicate_succ, Nat.reduceSub, Nat.reduceAdd, if_true, if_false, Bool.false_eq_true, Bool.not_true, Bool.not_false, true_and, and_true]
          rw [eo]
          refine later_use hW hL fun p hp => ?_
          rw [rLen_lst gup_same, DD.rEq_int, List.length_map]
          unfold rowsM
          have hS1 := hS.new (u := .lst ((latD L b o).map fun d => encS d.st)) hp
          by_cases hlen : rows.length = (latD L b o).length
          · have e3 : ((rows.length : Int) == ((latD L b o).length : Int)) = true := by rw [hlen]; simp
            rw [e3]
            simp only [ob_some, if_true]
            rw [decide_eq_true hlen, Bool.true_and, zipM_app]
            simp only [set_app, drop_app, ret_app, asg_app, par_app, par3_app, put_app, next_app, cont_app, break_app, seq_set, seq_drop, seq_ret, seq_asg, seq_par, seq_par3, seq_put, seq_next, dOp, dUn, dVar, dC, dTup, dLst, dNil, dCons, dCall, dCB, dBM, isTy_str, dTB, dAndT, dOrT, dNotT, dAnd, dOr, dNot, dIf, dTru, truth, dChain, dSl, dPart, dNoPart,  dLc,  dRng1, dRng2,  dEnumT, dgName, dgTup, dgCons, dgNil, dDct0, dYes, dwipe, dstart, rAdd_int, rAdd_str, rAdd_tup, rSub_int, rMul_int, rMod_int, rFdiv_int, rNeg_int, rIs_non, rIsNot_non, rIs_bl, DD.isNonD, isi_tuple_non, isi_tuple_bl, isi_tuple_int, isi_tuple_str, isi_tuple_tup, isi_bool_non, isi_bool_bl, isi_bool_int, isi_bool_str, isi_bool_tup, isi_int_non, isi_int_bl, isi_int_int, isi_int_str, isi_int_tup, isi_str_non, isi_str_bl, isi_str_int, isi_str_str, isi_str_tup, isi_list_non, isi_list_bl, isi_list_int, isi_list_str, isi_list_tup, isi_is_int, isi_is_str, isi_is_non, isi_is_tup, rIx_str, rIx_tup, rIx_scr, rLen_str, rLen_tup, rLen_scr, rTuple_tup, rList_tup, rIn_s1, rIn_s2, rIn_s3, rMax2_int, rMin2_int, rInt1_int, rSl_str, rSl_tup, rev_app, revK_tup, seqX_app, seqK_tup, seqK_str, zip_app, zipK_tup, rLt_int, rLe_int, rGt_int, rGe_int, rLt_str, rLe_str, rGt_str, rGe_str, rOrd_encS, DD.rEq_int, DD.rEq_str, DD.rEq_bl, DD.rNe_int, DD.rNe_str, rEq_encS, rEq_encO, rEq_OS, atI_0, atI_1, atI_2, atI_3, atI_4, atI_5, atI_snoc, ob_some, gup_same, List.map_cons, List.map_nil, List.length_cons, List.length_nil, List.cons_append, List.nil_append, List.getElem?_cons_zero, List.getElem?_cons_succ, List.set_cons_zero, List.set_cons_succ, List.replicate_zero, List.replicate_succ, Nat.reduceSub, Nat.reduceAdd, if_true, if_false, Bool.false_eq_true, Bool.not_true, Bool.not_false, true_and, and_true]
            have ez : zipD ((latD L b o).map fun d => encS d.st) rows = ((latD L b o).zip rows).map fun q => .tup [encS q.1.st, q.2] := by
              unfold zipD
              rw [List.zip_map_left, List.map_map]
              rfl
            rw [ez]
            refine lcL_ind (fun i acc G1 => acc = (((latD L b o).zip rows).take i).map (fun q => D.bl (rowM G (M.counts L q.1.st) (covD L s q.1) q.1.st q.2)) ∧ Sub G G1 ∧ G1 p = some (.lst ((latD L b o).map fun d => encS d.st))) ?_ ?_ _ _ ⟨rfl, hS1, gup_same⟩
            · rintro i d F3 hd hF3 acc G1 ⟨rfl, hS, hG⟩
              obtain ⟨⟨m, r⟩, he, rfl, hm⟩ := map_get hd
              refine ⟨hG, ?_⟩
              simp only [set_app, drop_app, ret_app, asg_app, par_app, par3_app, put_app, next_app, cont_app, break_app, seq_set, seq_drop, seq_ret, seq_asg, seq_par, seq_par3, seq_put, seq_next, dOp, dUn, dVar, dC, dTup, dLst, dNil, dCons, dCall, dCB, dBM, isTy_str, dTB, dAndT, dOrT, dNotT, dAnd, dOr, dNot, dIf, dTru, truth, dChain, dSl, dPart, dNoPart,  dLc,  dRng1, dRng2,  dEnumT, dgName, dgTup, dgCons, dgNil, dDct0, dYes, dwipe, dstart, rAdd_int, rAdd_str, rAdd_tup, rSub_int, rMul_int, rMod_int, rFdiv_int, rNeg_int, rIs_non, rIsNot_non, rIs_bl, DD.isNonD, isi_tuple_non, isi_tuple_bl, isi_tuple_int, isi_tuple_str, isi_tuple_tup, isi_bool_non, isi_bool_bl, isi_bool_int, isi_bool_str, isi_bool_tup, isi_int_non, isi_int_bl, isi_int_int, isi_int_str, isi_int_tup, isi_str_non, isi_str_bl, isi_str_int, isi_str_str, isi_str_tup, isi_list_non, isi_list_bl, isi_list_int, isi_list_str, isi_list_tup, isi_is_int, isi_is_str, isi_is_non, isi_is_tup, rIx_str, rIx_tup, rIx_scr, rLen_str, rLen_tup, rLen_scr, rTuple_tup, rList_tup, rIn_s1, rIn_s2, rIn_s3, rMax2_int, rMin2_int, rInt1_int, rSl_str, rSl_tup, rev_app, revK_tup, seqX_app, seqK_tup, seqK_str, zip_app, zipK_tup, rLt_int, rLe_int, rGt_int, rGe_int, rLt_str, rLe_str, rGt_str, rGe_str, rOrd_encS, DD.rEq_int, DD.rEq_str, DD.rEq_bl, DD.rNe_int, DD.rNe_str, rEq_encS, rEq_encO, rEq_OS, atI_0, atI_1, atI_2, atI_3, atI_4, atI_5, atI_snoc, ob_some, gup_same, List.map_cons, List.map_nil, List.length_cons, List.length_nil, List.cons_append, List.nil_append, List.getElem?_cons_zero, List.getElem?_cons_succ, List.set_cons_zero, List.set_cons_succ, List.replicate_zero, List.replicate_succ, Nat.reduceSub, Nat.reduceAdd, if_true, if_false, Bool.false_eq_true, Bool.not_true, Bool.not_false, true_and, and_true]
              obtain ⟨hm1, hm2⟩ := List.of_mem_zip hm
              obtain ⟨hmL, hmk⟩ := List.mem_filter.mp hm1
              rw [Bool.and_eq_true] at hmk
              refine row_use hW hL hs hmL hmk.1 ((hrows r hm2).sub hS) ?_
              rw [rowM_sub hS (hrows r hm2)]
              refine hF3 _ _ ⟨?_, hS, hG⟩
              rw [take_snoc he, List.map_append]
              rfl
            · rintro acc G1 ⟨rfl, hS, hG⟩
              refine ⟨hG, fun p2 hp2 => ?_⟩
              rw [List.length_map, List.take_length]
              have eb : ((latD L b o).zip rows).map (fun q => D.bl (rowM G (M.counts L q.1.st) (covD L s q.1) q.1.st q.2)) = (((latD L b o).zip rows).map fun q => rowM G (M.counts L q.1.st) (covD L s q.1) q.1.st q.2).map .bl := by rw [List.map_map]; rfl
              rw [eb, rAll_lst gup_same]
              refine ⟨congrArg D.bl ?_, hS.new hp2⟩
              rw [List.all_map]
              rfl
          · have e3 : ((rows.length : Int) == ((latD L b o).length : Int)) = false := by
              rw [beq_eq_false_iff_ne]
              omega
            rw [e3]
            simp only [ob_some, Bool.false_eq_true, if_false]
            rw [decide_eq_false hlen]
            exact ⟨rfl, hS1⟩
      | _ =>
        simp only [isTupD, ob_some, Bool.not_false, if_true]
        refine ⟨?_, Sub.refl⟩
        cases y <;> rfl
    · have e2 : (!((xs.length : Int) == 2)) = true := by
        rw [Bool.not_eq_true', beq_eq_false_iff_ne]
        omega
      rw [e2]
      simp only [if_true]
      refine ⟨?_, Sub.refl⟩
      unfold papM
      split
      · rename_i q; cases q; exact (hl rfl).elim
      · rename_i q; cases q; exact (hl rfl).elim
      · rfl
  | _ =>
    simp only [isTupD, ob_some, Bool.not_false, if_true]
    exact ⟨rfl, Sub.refl⟩
theorem good_is_paper {P : Program} {w : World} {K : PySem.W.Frag} {mg : Str → Option Value} {base : Heap} (D0 : DefAt K mg "is_paper" (top 23)) (g_all : mg "all" = none) (g_isinstance : mg "isinstance" = none) (g_len : mg "len" = none) (g_tuple : mg "tuple" = none) (g_zip : mg "zip" = none) (G_counts : Good P w K mg base "counts" ps_counts 1 sp_counts) (G_covers : Good P w K mg base "covers" ps_covers 3 sp_covers) (G_is_row : Good P w K mg base "is_row" ps_is_row 4 sp_is_row) (G_later_marks : Good P w K mg base "later_marks" ps_later_marks 2 sp_later_marks) (G_marks_of : Good P w K mg base "marks_of" ps_marks_of 1 sp_marks_of) : Good P w K mg base "is_paper" ps_is_paper 5 sp_is_paper :=
  goodF D0 sc_is_paper t_is_paper bind_is_paper len_is_paper (fun f cdv A outer s H E hr => der_is_paper g_all g_isinstance g_len g_tuple g_zip G_counts G_covers G_is_row G_later_marks G_marks_of f cdv A outer s H E hr) pure_is_paper
theorem isp_use {L : List Deed} {s : Stp} {b : Bool} {x : D} {n : Nat} {G : DG} {Q : DK} {RE : DX} (hW : Wf L) (hL : L.length ≤ 1000) (hs : s ∈ lets L) (hx : Th G n x) (hM : HM G L x) (q : Q (.bl (papM G L b s x)) G) : sp_is_paper [.tup (L.map M.encD), encS s, .str (kin b), x] G Q RE := ⟨_, ⟨L, s, b, x, n, rfl, hW, hL, hs, hx, hM, rfl⟩, q⟩
end K

namespace K
open PySem PySem.Spec PyProof.Rows L2 DD M
theorem rIsNot_bl {p q : Bool} {G : DG} {Q : DK} : DD.rIsNot (.bl p) (.bl q) G Q = Q (.bl (!(p == q))) G := rfl
def encVV (v : Val × Val) : D := .tup [encV v.1, encV v.2]
theorem vals_vv (L : List Deed) (s : Stp) : D.tup [vals L true s, vals L false s] = encVV (vv L s) := by
  rw [vals_enc, vals_enc]
  rfl
theorem kinds2 {i : Nat} {d : D} (h : ([.str "bold", .str "link"] : List D)[i]? = some d) : ∃ b : Bool, d = .str (kin b) := by
  match i, h with
  | 0, h => cases h; exact ⟨true, rfl⟩
  | 1, h => cases h; exact ⟨false, rfl⟩
  | (i + 2), h => cases h
theorem hm_paper {G : DG} {L : List Deed} {b : Bool} {s : Stp} : HM G L (paperD L b s) := by
  intro y ys e d hd h
  unfold paperD at e
  cases e
  rw [eqG_flat (flat_encO _)] at h
  have h : eqD (encO (toldO L b s)) (encO (some d.st)) = true := h
  rw [eqD_encO] at h
  rw [of_decide_eq_true h]
  rfl
theorem flatVV_take (l : List (Str × Val × Val)) (i : Nat) : (flatVV (l.take i)).length ≤ (flatVV l).length := by
  have e : flatVV l = flatVV (l.take i) ++ flatVV (l.drop i) := by
    unfold flatVV
    rw [← List.flatMap_append, List.take_append_drop]
  rw [e, List.length_append]
  omega
theorem flatVV_mem {l : List (Str × Val × Val)} {x : Str × Val × Val} (h : x ∈ l) : x.1.length ≤ (flatVV l).length := by
  obtain ⟨a, b, rfl⟩ := List.append_of_mem h
  unfold flatVV
  simp
  omega
theorem rep_one {n : Nat} {x : D} : (List.replicate n [x]).flatten = List.replicate n x := by
  induction n with
  | zero => rfl
  | succ n ih => rw [List.replicate_succ, List.flatten_cons, ih]; rfl
theorem flat_encVV (v : Val × Val) : flat (encVV v) = true := flat_vv _ _
theorem dp_encVV (v : Val × Val) : dpP (toP (encVV v)) ≤ 1 := by
  show max (dpP (toP (encV v.1))) (max (dpP (toP (encV v.2))) 0) + 1 ≤ 1
  rw [dp_encV, dp_encV]
  decide
/-! ### _law_is_told -/
def rel__law_is_told (ds : List D) (d : D) : Prop := ∃ L, PreL1 ds L ∧ d = .bl true
def sp__law_is_told : DSp := spP rel__law_is_told
abbrev N__law_is_told : List Str := ["_law_deeds_here", "_law_due", "_law_stamp", "_law_told", "_law_one", "_law_kind"]
abbrev ps__law_is_told : List Str := ["_law_deeds_here"]
def t__law_is_told : DTS :=
  (dSeq (dSet 1 (dLst dNil)) (dSeq (dFor (dSeqX (dCall sp_order ex0 (dCons (dVar 0) dNil))) (dgName 2) (dSeq (dFor (dSeqX (dTup (dCons (dC (.str "bold")) (dCons (dC (.str "link")) dNil)))) (dgName 5) (dIfS (dTB (dOp rIsNot (dCall sp_is_paper ex0 (dCons (dVar 0) (dCons (dVar 2) (dCons (dVar 5) (dCons (dCall sp_paper ex0 (dCons (dVar 0) (dCons (dVar 2) (dCons (dVar 5) dNil)))) dNil))))) (dC (.bl true)))) (dRet (dC (.bl false))) dNext)) (dIfS (dTru (dCall sp_is_shown ex0 (dCons (dVar 0) (dCons (dVar 2) dNil)))) (dDrop (dBM "list" rAppend (dVar 1) (dCons (dTup (dCons (dCall sp_value ex0 (dCons (dVar 0) (dCons (dVar 2) (dCons (dC (.str "bold")) dNil)))) (dCons (dCall sp_value ex0 (dCons (dVar 0) (dCons (dVar 2) (dCons (dC (.str "link")) dNil)))) dNil))) dNil))) dNext))) (dSeq (dSet 3 (dLst dNil)) (dSeq (dFor (dSeqX (dCall sp_spans ex0 (dCons (dVar 0) dNil))) (dgName 4) (dDrop (dBM "list" rExtend (dVar 3) (dCons (dOp rMul (dLst (dCons (dSl rSl (dVar 4) (dPart (dC (.int 1))) dNoPart) dNil)) (dCB rLen (dCons (dOp rIx (dVar 4) (dC (.int 0))) dNil))) dNil)))) (dRet (dAnd (dOp rEq (dVar 3) (dVar 1)) (dOp rEq (dCB rLen (dCons (dCall sp_text ex0 (dCons (dVar 0) dNil)) dNil)) (dCB rLen (dCons (dVar 1) dNil)))))))))
theorem sc__law_is_told : FnScope N__law_is_told ps__law_is_told (defScope (top 31)) := ⟨rfl, rfl, rfl, by decide +kernel, rfl, by decide +kernel, by decide +kernel⟩
theorem der__law_is_told {P : Program} {w : World} {K : PySem.W.Frag} {mg : Str → Option Value} {base : Heap} (g_len : mg "len" = none) (G_is_paper : Good P w K mg base "is_paper" ps_is_paper 5 sp_is_paper) (G_is_shown : Good P w K mg base "is_shown" ps_is_shown 2 sp_is_shown) (G_order : Good P w K mg base "order" ps_order 1 sp_order) (G_paper : Good P w K mg base "paper" ps_paper 4 sp_paper) (G_spans : Good P w K mg base "spans" ps_spans 4 sp_spans) (G_text : Good P w K mg base "text" ps_text 4 sp_text) (G_value : Good P w K mg base "value" ps_value 3 sp_value) (f : Addr) (cdv : Value) (A : Around) (outer : List Env) (s : Shared) (H : Hp) (E : XK)
    (hr : Room 5 (A.deeper (envOfC "_law_is_told" (defScope (top 31)) s.heap.objs.size f cdv))) :
    DSs (cxOf CX0 P w K mg base N__law_is_told "_law_is_told" (defScope (top 31)) f cdv A outer s H E).nox (Rg.top K w) (defBody (top 31)) t__law_is_told := by
  have S := sc__law_is_told
  exact (dss_cons (ds_set (i := 1) S.nd rfl (by first | exact Or.inl rfl | exact Or.inr rfl) (de_lst da_nil))
    (dss_cons (ds_for (vs := [2]) PassesOwn.never rfl (di_seq (de_callG G_order hr rfl (da_cons (de_var (pv 0)) da_nil))) (dg_name (pg_name (i := 2) S.nd rfl (by first | exact Or.inl rfl | exact Or.inr rfl)) (by decide) (by decide)) (dss_cons (ds_for (vs := [5]) PassesOwn.never rfl (di_seq (de_tup (da_cons de_str (da_cons de_str da_nil)))) (dg_name (pg_name (i := 5) S.nd rfl (by first | exact Or.inl rfl | exact Or.inr rfl)) (by decide) (by decide)) (dss_one (ds_if (dt_cmp op_isNotD (de_callG G_is_paper hr rfl (da_cons (de_var (pv 0)) (da_cons (de_var (pv 2)) (da_cons (de_var (pv 5)) (da_cons (de_callG G_paper hr rfl (da_cons (de_var (pv 0)) (da_cons (de_var (pv 2)) (da_cons (de_var (pv 5)) da_nil)))) da_nil))))) de_bl (by rfl)) (dss_one (ds_ret de_bl)) dss_nil)))
    (dss_one (ds_if (dt_truth (de_callG G_is_shown hr rfl (da_cons (de_var (pv 0)) (da_cons (de_var (pv 2)) da_nil)))) (dss_one (ds_expr (de_bm F.plainAttrs_list F.slot_list_append F.type_list_append mt_appendD (de_var (pv 1)) (da_cons (de_tup (da_cons (de_callG G_value hr rfl (da_cons (de_var (pv 0)) (da_cons (de_var (pv 2)) (da_cons de_str da_nil)))) (da_cons (de_callG G_value hr rfl (da_cons (de_var (pv 0)) (da_cons (de_var (pv 2)) (da_cons de_str da_nil)))) da_nil))) da_nil)))) dss_nil))))
    (dss_cons (ds_set (i := 3) S.nd rfl (by first | exact Or.inl rfl | exact Or.inr rfl) (de_lst da_nil))
    (dss_cons (ds_for (vs := [4]) PassesOwn.never rfl (di_seq (de_callG G_spans hr rfl (da_cons (de_var (pv 0)) da_nil))) (dg_name (pg_name (i := 4) S.nd rfl (by first | exact Or.inl rfl | exact Or.inr rfl)) (by decide) (by decide)) (dss_one (ds_expr (de_bm F.plainAttrs_list F.slot_list_extend F.type_list_extend mt_extendD (de_var (pv 3)) (da_cons (de_op op_mulD (de_lst (da_cons (de_slice sl_D (de_var (pv 4)) (do_some de_int) do_none) da_nil)) (de_callB call_lenD rfl g_len rfl (da_cons (de_ix (ix_D hr.units) (de_var (pv 4)) de_int) da_nil))) da_nil)))))
    (dss_one (ds_ret (de_and (de_cmp (op_eqD hr.units) (de_var (pv 3)) (de_var (pv 1)) (by rfl)) (de_one (de_cmp (op_eqD hr.units) (de_callB call_lenD rfl g_len rfl (da_cons (de_callG G_text hr rfl (da_cons (de_var (pv 0)) da_nil)) da_nil)) (de_callB call_lenD rfl g_len rfl (da_cons (de_var (pv 1)) da_nil)) (by rfl))))))))))
theorem bind__law_is_told (kV doc pm : Value) (an : Option Addr) (cdv ct : Value) (us : List Value) (hl : us.length = ps__law_is_told.length) : bindArgs (PySem.W.fnOf "_law_is_told" "_law_is_told" (defArgs (top 31)) (defBody (top 31)) (defScope (top 31)) .none kV doc pm an cdv ct) ⟨us, []⟩ = pure (ps__law_is_told.zip us) := match us, hl with | [_], _ => rfl
theorem len__law_is_told : ∀ ds d, rel__law_is_told ds d → ds.length = ps__law_is_told.length := by
  rintro ds d ⟨L, ⟨rfl, _⟩, _⟩; rfl
theorem pure__law_is_told : ∀ ds d, rel__law_is_told ds d → t__law_is_told { nx := fun _ _ => .non = d, rt := fun d' _ => d' = d } (dstart N__law_is_told ds) g0 := by
  rintro ds d ⟨L, ⟨rfl, hW, hL⟩, rfl⟩
  simp only [t__law_is_told, N__law_is_told, set_app, drop_app, ret_app, asg_app, par_app, par3_app, put_app, next_app, cont_app, break_app, seq_set, seq_drop, seq_ret, seq_asg, seq_par, seq_par3, seq_put, seq_next, dOp, dUn, dVar, dC, dTup, dLst, dNil, dCons, dCall, dCB, dBM, isTy_str, dTB, dAndT, dOrT, dNotT, dAnd, dOr, dNot, dIf, dTru, truth, dChain, dSl, dPart, dNoPart,  dLc,  dRng1, dRng2,  dEnumT, dgName, dgTup, dgCons, dgNil, dDct0, dYes, dwipe, dstart, rAdd_int, rAdd_str, rAdd_tup, rSub_int, rMul_int, rMod_int, rFdiv_int, rNeg_int, rIs_non, rIsNot_non, rIs_bl, DD.isNonD, isi_tuple_non, isi_tuple_bl, isi_tuple_int, isi_tuple_str, isi_tuple_tup, isi_bool_non, isi_bool_bl, isi_bool_int, isi_bool_str, isi_bool_tup, isi_int_non, isi_int_bl, isi_int_int, isi_int_str, isi_int_tup, isi_str_non, isi_str_bl, isi_str_int, isi_str_str, isi_str_tup, isi_list_non, isi_list_bl, isi_list_int, isi_list_str, isi_list_tup, isi_is_int, isi_is_str, isi_is_non, isi_is_tup, rIx_str, rIx_tup, rIx_scr, rLen_str, rLen_tup, rLen_scr, rTuple_tup, rList_tup, rIn_s1, rIn_s2, rIn_s3, rMax2_int, rMin2_int, rInt1_int, rSl_str, rSl_tup, rev_app, revK_tup, seqX_app, seqK_tup, seqK_str, zip_app, zipK_tup, rLt_int, rLe_int, rGt_int, rGe_int, rLt_str, rLe_str, rGt_str, rGe_str, rOrd_encS, DD.rEq_int, DD.rEq_str, DD.rEq_bl, DD.rNe_int, DD.rNe_str, rEq_encS, rEq_encO, rEq_OS, atI_0, atI_1, atI_2, atI_3, atI_4, atI_5, atI_snoc, ob_some, gup_same, List.map_cons, List.map_nil, List.length_cons, List.length_nil, List.cons_append, List.nil_append, List.getElem?_cons_zero, List.getElem?_cons_succ, List.set_cons_zero, List.set_cons_succ, List.replicate_zero, List.replicate_succ, Nat.reduceSub, Nat.reduceAdd, if_true, if_false, Bool.false_eq_true, Bool.not_true, Bool.not_false, true_and, and_true]
  intro pd hpd
  rw [seq_for]
  simp only [set_app, drop_app, ret_app, asg_app, par_app, par3_app, put_app, next_app, cont_app, break_app, seq_set, seq_drop, seq_ret, seq_asg, seq_par, seq_par3, seq_put, seq_next, dOp, dUn, dVar, dC, dTup, dLst, dNil, dCons, dCall, dCB, dBM, isTy_str, dTB, dAndT, dOrT, dNotT, dAnd, dOr, dNot, dIf, dTru, truth, dChain, dSl, dPart, dNoPart,  dLc,  dRng1, dRng2,  dEnumT, dgName, dgTup, dgCons, dgNil, dDct0, dYes, dwipe, dstart, rAdd_int, rAdd_str, rAdd_tup, rSub_int, rMul_int, rMod_int, rFdiv_int, rNeg_int, rIs_non, rIsNot_non, rIs_bl, DD.isNonD, isi_tuple_non, isi_tuple_bl, isi_tuple_int, isi_tuple_str, isi_tuple_tup, isi_bool_non, isi_bool_bl, isi_bool_int, isi_bool_str, isi_bool_tup, isi_int_non, isi_int_bl, isi_int_int, isi_int_str, isi_int_tup, isi_str_non, isi_str_bl, isi_str_int, isi_str_str, isi_str_tup, isi_list_non, isi_list_bl, isi_list_int, isi_list_str, isi_list_tup, isi_is_int, isi_is_str, isi_is_non, isi_is_tup, rIx_str, rIx_tup, rIx_scr, rLen_str, rLen_tup, rLen_scr, rTuple_tup, rList_tup, rIn_s1, rIn_s2, rIn_s3, rMax2_int, rMin2_int, rInt1_int, rSl_str, rSl_tup, rev_app, revK_tup, seqX_app, seqK_tup, seqK_str, zip_app, zipK_tup, rLt_int, rLe_int, rGt_int, rGe_int, rLt_str, rLe_str, rGt_str, rGe_str, rOrd_encS, DD.rEq_int, DD.rEq_str, DD.rEq_bl, DD.rNe_int, DD.rNe_str, rEq_encS, rEq_encO, rEq_OS, atI_0, atI_1, atI_2, atI_3, atI_4, atI_5, atI_snoc, ob_some, gup_same, List.map_cons, List.map_nil, List.length_cons, List.length_nil, List.cons_append, List.nil_append, List.getElem?_cons_zero, List.getElem?_cons_succ, List.set_cons_zero, List.set_cons_succ, List.replicate_zero, List.replicate_succ, Nat.reduceSub, Nat.reduceAdd, if_true, if_false, Bool.false_eq_true, Bool.not_true, Bool.not_false, true_and, and_true]
  refine order_use hW hL ?_
  rw [seqK_tup]
  refine forL_ind (fun i δ G => G pd = some (.lst ((((ordI L).take i).filter (M.shown L)).map fun s => encVV (vv L s))) ∧ ∃ r2 r3 r5, δ = [some (.tup (L.map M.encD)), some (.ref pd), r2, r3, none, r5]) ?_ ?_ _ _ ⟨gup_same, none, none, none, rfl⟩
  · rintro i d F hd hF δ G ⟨hG, r2, r3, r50, rfl⟩
    obtain ⟨s, hs, rfl, hm⟩ := map_get hd
    have hs' : s ∈ lets L := (ordI_ok hW).2.1 s hm
    refine ⟨trivial, ?_⟩
    simp only [set_app, drop_app, ret_app, asg_app, par_app, par3_app, put_app, next_app, cont_app, break_app, seq_set, seq_drop, seq_ret, seq_asg, seq_par, seq_par3, seq_put, seq_next, dOp, dUn, dVar, dC, dTup, dLst, dNil, dCons, dCall, dCB, dBM, isTy_str, dTB, dAndT, dOrT, dNotT, dAnd, dOr, dNot, dIf, dTru, truth, dChain, dSl, dPart, dNoPart,  dLc,  dRng1, dRng2,  dEnumT, dgName, dgTup, dgCons, dgNil, dDct0, dYes, dwipe, dstart, rAdd_int, rAdd_str, rAdd_tup, rSub_int, rMul_int, rMod_int, rFdiv_int, rNeg_int, rIs_non, rIsNot_non, rIs_bl, DD.isNonD, isi_tuple_non, isi_tuple_bl, isi_tuple_int, isi_tuple_str, isi_tuple_tup, isi_bool_non, isi_bool_bl, isi_bool_int, isi_bool_str, isi_bool_tup, isi_int_non, isi_int_bl, isi_int_int, isi_int_str, isi_int_tup, isi_str_non, isi_str_bl, isi_str_int, isi_str_str, isi_str_tup, isi_list_non, isi_list_bl, isi_list_int, isi_list_str, isi_list_tup, isi_is_int, isi_is_str, isi_is_non, isi_is_tup, rIx_str, rIx_tup, rIx_scr, rLen_str, rLen_tup, rLen_scr, rTuple_tup, rList_tup, rIn_s1, rIn_s2, rIn_s3, rMax2_int, rMin2_int, rInt1_int, rSl_str, rSl_tup, rev_app, revK_tup, seqX_app, seqK_tup, seqK_str, zip_app, zipK_tup, rLt_int, rLe_int, rGt_int, rGe_int, rLt_str, rLe_str, rGt_str, rGe_str, rOrd_encS, DD.rEq_int, DD.rEq_str, DD.rEq_bl, DD.rNe_int, DD.rNe_str, rEq_encS, rEq_encO, rEq_OS, atI_0, atI_1, atI_2, atI_3, atI_4, atI_5, atI_snoc, ob_some, gup_same, List.map_cons, List.map_nil, List.length_cons, List.length_nil, List.cons_append, List.nil_append, List.getElem?_cons_zero, List.getElem?_cons_succ, List.set_cons_zero, List.set_cons_succ, List.replicate_zero, List.replicate_succ, Nat.reduceSub, Nat.reduceAdd, if_true, if_false, Bool.false_eq_true, Bool.not_true, Bool.not_false, true_and, and_true]
    rw [seq_for]
    simp only [set_app, drop_app, ret_app, asg_app, par_app, par3_app, put_app, next_app, cont_app, break_app, seq_set, seq_drop, seq_ret, seq_asg, seq_par, seq_par3, seq_put, seq_next, dOp, dUn, dVar, dC, dTup, dLst, dNil, dCons, dCall, dCB, dBM, isTy_str, dTB, dAndT, dOrT, dNotT, dAnd, dOr, dNot, dIf, dTru, truth, dChain, dSl, dPart, dNoPart,  dLc,  dRng1, dRng2,  dEnumT, dgName, dgTup, dgCons, dgNil, dDct0, dYes, dwipe, dstart, rAdd_int, rAdd_str, rAdd_tup, rSub_int, rMul_int, rMod_int, rFdiv_int, rNeg_int, rIs_non, rIsNot_non, rIs_bl, DD.isNonD, isi_tuple_non, isi_tuple_bl, isi_tuple_int, isi_tuple_str, isi_tuple_tup, isi_bool_non, isi_bool_bl, isi_bool_int, isi_bool_str, isi_bool_tup, isi_int_non, isi_int_bl, isi_int_int, isi_int_str, isi_int_tup, isi_str_non, isi_str_bl, isi_str_int, isi_str_str, isi_str_tup, isi_list_non, isi_list_bl, isi_list_int, isi_list_str, isi_list_tup, isi_is_int, isi_is_str, isi_is_non, isi_is_tup, rIx_str, rIx_tup, rIx_scr, rLen_str, rLen_tup, rLen_scr, rTuple_tup, rList_tup, rIn_s1, rIn_s2, rIn_s3, rMax2_int, rMin2_int, rInt1_int, rSl_str, rSl_tup, rev_app, revK_tup, seqX_app, seqK_tup, seqK_str, zip_app, zipK_tup, rLt_int, rLe_int, rGt_int, rGe_int, rLt_str, rLe_str, rGt_str, rGe_str, rOrd_encS, DD.rEq_int, DD.rEq_str, DD.rEq_bl, DD.rNe_int, DD.rNe_str, rEq_encS, rEq_encO, rEq_OS, atI_0, atI_1, atI_2, atI_3, atI_4, atI_5, atI_snoc, ob_some, gup_same, List.map_cons, List.map_nil, List.length_cons, List.length_nil, List.cons_append, List.nil_append, List.getElem?_cons_zero, List.getElem?_cons_succ, List.set_cons_zero, List.set_cons_succ, List.replicate_zero, List.replicate_succ, Nat.reduceSub, Nat.reduceAdd, if_true, if_false, Bool.false_eq_true, Bool.not_true, Bool.not_false, true_and, and_true]
    refine forL_ind (fun j δ G' => G' = G ∧ ∃ r5, δ = [some (.tup (L.map M.encD)), some (.ref pd), some (encS s), r3, none, r5]) ?_ ?_ _ _ ⟨rfl, _, rfl⟩
    · rintro j d F2 hd2 hF2 δ G' ⟨eG, r5, rfl⟩
      subst eG
      obtain ⟨b, rfl⟩ := kinds2 hd2
      refine ⟨trivial, ?_⟩
      simp only [set_app, drop_app, ret_app, asg_app, par_app, par3_app, put_app, next_app, cont_app, break_app, seq_set, seq_drop, seq_ret, seq_asg, seq_par, seq_par3, seq_put, seq_next, dOp, dUn, dVar, dC, dTup, dLst, dNil, dCons, dCall, dCB, dBM, isTy_str, dTB, dAndT, dOrT, dNotT, dAnd, dOr, dNot, dIf, dTru, truth, dChain, dSl, dPart, dNoPart,  dLc,  dRng1, dRng2,  dEnumT, dgName, dgTup, dgCons, dgNil, dDct0, dYes, dwipe, dstart, rAdd_int, rAdd_str, rAdd_tup, rSub_int, rMul_int, rMod_int, rFdiv_int, rNeg_int, rIs_non, rIsNot_non, rIs_bl, DD.isNonD, isi_tuple_non, isi_tuple_bl, isi_tuple_int, isi_tuple_str, isi_tuple_tup, isi_bool_non, isi_bool_bl, isi_bool_int, isi_bool_str, isi_bool_tup, isi_int_non, isi_int_bl, isi_int_int, isi_int_str, isi_int_tup, isi_str_non, isi_str_bl, isi_str_int, isi_str_str, isi_str_tup, isi_list_non, isi_list_bl, isi_list_int, isi_list_str, isi_list_tup, isi_is_int, isi_is_str, isi_is_non, isi_is_tup, rIx_str, rIx_tup, rIx_scr, rLen_str, rLen_tup, rLen_scr, rTuple_tup, rList_tup, rIn_s1, rIn_s2, rIn_s3, rMax2_int, rMin2_int, rInt1_int, rSl_str, rSl_tup, rev_app, revK_tup, seqX_app, seqK_tup, seqK_str, zip_app, zipK_tup, rLt_int, rLe_int, rGt_int, rGe_int, rLt_str, rLe_str, rGt_str, rGe_str, rOrd_encS, DD.rEq_int, DD.rEq_str, DD.rEq_bl, DD.rNe_int, DD.rNe_str, rEq_encS, rEq_encO, rEq_OS, atI_0, atI_1, atI_2, atI_3, atI_4, atI_5, atI_snoc, ob_some, gup_same, List.map_cons, List.map_nil, List.length_cons, List.length_nil, List.cons_append, List.nil_append, List.getElem?_cons_zero, List.getElem?_cons_succ, List.set_cons_zero, List.set_cons_succ, List.replicate_zero, List.replicate_succ, Nat.reduceSub, Nat.reduceAdd, if_true, if_false, Bool.false_eq_true, Bool.not_true, Bool.not_false, true_and, and_true]
      rw [if_app]
      simp only [set_app, drop_app, ret_app, asg_app, par_app, par3_app, put_app, next_app, cont_app, break_app, seq_set, seq_drop, seq_ret, seq_asg, seq_par, seq_par3, seq_put, seq_next, dOp, dUn, dVar, dC, dTup, dLst, dNil, dCons, dCall, dCB, dBM, isTy_str, dTB, dAndT, dOrT, dNotT, dAnd, dOr, dNot, dIf, dTru, truth, dChain, dSl, dPart, dNoPart,  dLc,  dRng1, dRng2,  dEnumT, dgName, dgTup, dgCons, dgNil, dDct0, dYes, dwipe, dstart, rAdd_int, rAdd_str, rAdd_tup, rSub_int, rMul_int, rMod_int, rFdiv_int, rNeg_int, rIs_non, rIsNot_non, rIs_bl, DD.isNonD, isi_tuple_non, isi_tuple_bl, isi_tuple_int, isi_tuple_str, isi_tuple_tup, isi_bool_non, isi_bool_bl, isi_bool_int, isi_bool_str, isi_bool_tup, isi_int_non, isi_int_bl, isi_int_int, isi_int_str, isi_int_tup, isi_str_non, isi_str_bl, isi_str_int, isi_str_str, isi_str_tup, isi_list_non, isi_list_bl, isi_list_int, isi_list_str, isi_list_tup, isi_is_int, isi_is_str, isi_is_non, isi_is_tup, rIx_str, rIx_tup, rIx_scr, rLen_str, rLen_tup, rLen_scr, rTuple_tup, rList_tup, rIn_s1, rIn_s2, rIn_s3, rMax2_int, rMin2_int, rInt1_int, rSl_str, rSl_tup, rev_app, revK_tup, seqX_app, seqK_tup, seqK_str, zip_app, zipK_tup, rLt_int, rLe_int, rGt_int, rGe_int, rLt_str, rLe_str, rGt_str, rGe_str, rOrd_encS, DD.rEq_int, DD.rEq_str, DD.rEq_bl, DD.rNe_int, DD.rNe_str, rEq_encS, rEq_encO, rEq_OS, atI_0, atI_1, atI_2, atI_3, atI_4, atI_5, atI_snoc, ob_some, gup_same, List.map_cons, List.map_nil, List.length_cons, List.length_nil, List.cons_append, List.nil_append, List.getElem?_cons_zero, List.getElem?_cons_succ, List.set_cons_zero, List.set_cons_succ, List.replicate_zero, List.replicate_succ, Nat.reduceSub, Nat.reduceAdd, if_true, if_false, Bool.false_eq_true, Bool.not_true, Bool.not_false, true_and, and_true]
      refine paper_use hW hL hs' (isp_use hW hL hs' (th_paper _ L b s) hm_paper ?_)
      rw [papM_paper hW.sorted, rIsNot_bl]
      exact hF2 _ _ ⟨rfl, _, rfl⟩
    · rintro δ G' ⟨eG, r5, rfl⟩
      subst eG
      refine ⟨trivial, ?_⟩
      dsimp only
      rw [if_app]
      simp only [set_app, drop_app, ret_app, asg_app, par_app, par3_app, put_app, next_app, cont_app, break_app, seq_set, seq_drop, seq_ret, seq_asg, seq_par, seq_par3, seq_put, seq_next, dOp, dUn, dVar, dC, dTup, dLst, dNil, dCons, dCall, dCB, dBM, isTy_str, dTB, dAndT, dOrT, dNotT, dAnd, dOr, dNot, dIf, dTru, truth, dChain, dSl, dPart, dNoPart,  dLc,  dRng1, dRng2,  dEnumT, dgName, dgTup, dgCons, dgNil, dDct0, dYes, dwipe, dstart, rAdd_int, rAdd_str, rAdd_tup, rSub_int, rMul_int, rMod_int, rFdiv_int, rNeg_int, rIs_non, rIsNot_non, rIs_bl, DD.isNonD, isi_tuple_non, isi_tuple_bl, isi_tuple_int, isi_tuple_str, isi_tuple_tup, isi_bool_non, isi_bool_bl, isi_bool_int, isi_bool_str, isi_bool_tup, isi_int_non, isi_int_bl, isi_int_int, isi_int_str, isi_int_tup, isi_str_non, isi_str_bl, isi_str_int, isi_str_str, isi_str_tup, isi_list_non, isi_list_bl, isi_list_int, isi_list_str, isi_list_tup, isi_is_int, isi_is_str, isi_is_non, isi_is_tup, rIx_str, rIx_tup, rIx_scr, rLen_str, rLen_tup, rLen_scr, rTuple_tup, rList_tup, rIn_s1, rIn_s2, rIn_s3, rMax2_int, rMin2_int, rInt1_int, rSl_str, rSl_tup, rev_app, revK_tup, seqX_app, seqK_tup, seqK_str, zip_app, zipK_tup, rLt_int, rLe_int, rGt_int, rGe_int, rLt_str, rLe_str, rGt_str, rGe_str, rOrd_encS, DD.rEq_int, DD.rEq_str, DD.rEq_bl, DD.rNe_int, DD.rNe_str, rEq_encS, rEq_encO, rEq_OS, atI_0, atI_1, atI_2, atI_3, atI_4, atI_5, atI_snoc, ob_some, gup_same, List.map_cons, List.map_nil, List.length_cons, List.length_nil, List.cons_append, List.nil_append, List.getElem?_cons_zero, List.getElem?_cons_succ, List.set_cons_zero, List.set_cons_succ, List.replicate_zero, List.replicate_succ, Nat.reduceSub, Nat.reduceAdd, if_true, if_false, Bool.false_eq_true, Bool.not_true, Bool.not_false, true_and, and_true]
      refine shown_use hW hL ?_
      have eT := take_snoc hs
      cases h : M.shown L s with
      | true =>
        simp only [ob_some, if_true]
        rw [isTy_lst hG]
        refine ⟨trivial, value_use2 (b := true) hW hL hs' (value_use2 (b := false) hW hL hs' ?_)⟩
        rw [rAppend_lst hG, vals_vv]
        have hlen := (ordI_ok hW).2.2
        refine ⟨?_, hF _ _ ⟨?_, _, _, _, rfl⟩⟩
        · rw [List.length_map]
          have h1 := List.length_filter_le (M.shown L) ((ordI L).take i)
          have h2 : ((ordI L).take i).length ≤ (ordI L).length := by rw [List.length_take]; omega
          omega
        · rw [gup_same, eT, List.filter_append, List.map_append]
          simp [h]
      | false =>
        simp only [ob_some, Bool.false_eq_true, if_false]
        refine hF _ _ ⟨?_, _, _, _, rfl⟩
        rw [hG, eT, List.filter_append]
        simp [h]
  · rintro δ G ⟨hG, r2, r3, r5, rfl⟩
    refine ⟨trivial, ?_⟩
    rw [List.length_map, List.take_length] at hG
    simp only [set_app, drop_app, ret_app, asg_app, par_app, par3_app, put_app, next_app, cont_app, break_app, seq_set, seq_drop, seq_ret, seq_asg, seq_par, seq_par3, seq_put, seq_next, dOp, dUn, dVar, dC, dTup, dLst, dNil, dCons, dCall, dCB, dBM, isTy_str, dTB, dAndT, dOrT, dNotT, dAnd, dOr, dNot, dIf, dTru, truth, dChain, dSl, dPart, dNoPart,  dLc,  dRng1, dRng2,  dEnumT, dgName, dgTup, dgCons, dgNil, dDct0, dYes, dwipe, dstart, rAdd_int, rAdd_str, rAdd_tup, rSub_int, rMul_int, rMod_int, rFdiv_int, rNeg_int, rIs_non, rIsNot_non, rIs_bl, DD.isNonD, isi_tuple_non, isi_tuple_bl, isi_tuple_int, isi_tuple_str, isi_tuple_tup, isi_bool_non, isi_bool_bl, isi_bool_int, isi_bool_str, isi_bool_tup, isi_int_non, isi_int_bl, isi_int_int, isi_int_str, isi_int_tup, isi_str_non, isi_str_bl, isi_str_int, isi_str_str, isi_str_tup, isi_list_non, isi_list_bl, isi_list_int, isi_list_str, isi_list_tup, isi_is_int, isi_is_str, isi_is_non, isi_is_tup, rIx_str, rIx_tup, rIx_scr, rLen_str, rLen_tup, rLen_scr, rTuple_tup, rList_tup, rIn_s1, rIn_s2, rIn_s3, rMax2_int, rMin2_int, rInt1_int, rSl_str, rSl_tup, rev_app, revK_tup, seqX_app, seqK_tup, seqK_str, zip_app, zipK_tup, rLt_int, rLe_int, rGt_int, rGe_int, rLt_str, rLe_str, rGt_str, rGe_str, rOrd_encS, DD.rEq_int, DD.rEq_str, DD.rEq_bl, DD.rNe_int, DD.rNe_str, rEq_encS, rEq_encO, rEq_OS, atI_0, atI_1, atI_2, atI_3, atI_4, atI_5, atI_snoc, ob_some, gup_same, List.map_cons, List.map_nil, List.length_cons, List.length_nil, List.cons_append, List.nil_append, List.getElem?_cons_zero, List.getElem?_cons_succ, List.set_cons_zero, List.set_cons_succ, List.replicate_zero, List.replicate_succ, Nat.reduceSub, Nat.reduceAdd, if_true, if_false, Bool.false_eq_true, Bool.not_true, Bool.not_false, true_and, and_true]
    intro pt hpt
    have npt := gne hG hpt
    rw [seq_for]
    simp only [set_app, drop_app, ret_app, asg_app, par_app, par3_app, put_app, next_app, cont_app, break_app, seq_set, seq_drop, seq_ret, seq_asg, seq_par, seq_par3, seq_put, seq_next, dOp, dUn, dVar, dC, dTup, dLst, dNil, dCons, dCall, dCB, dBM, isTy_str, dTB, dAndT, dOrT, dNotT, dAnd, dOr, dNot, dIf, dTru, truth, dChain, dSl, dPart, dNoPart,  dLc,  dRng1, dRng2,  dEnumT, dgName, dgTup, dgCons, dgNil, dDct0, dYes, dwipe, dstart, rAdd_int, rAdd_str, rAdd_tup, rSub_int, rMul_int, rMod_int, rFdiv_int, rNeg_int, rIs_non, rIsNot_non, rIs_bl, DD.isNonD, isi_tuple_non, isi_tuple_bl, isi_tuple_int, isi_tuple_str, isi_tuple_tup, isi_bool_non, isi_bool_bl, isi_bool_int, isi_bool_str, isi_bool_tup, isi_int_non, isi_int_bl, isi_int_int, isi_int_str, isi_int_tup, isi_str_non, isi_str_bl, isi_str_int, isi_str_str, isi_str_tup, isi_list_non, isi_list_bl, isi_list_int, isi_list_str, isi_list_tup, isi_is_int, isi_is_str, isi_is_non, isi_is_tup, rIx_str, rIx_tup, rIx_scr, rLen_str, rLen_tup, rLen_scr, rTuple_tup, rList_tup, rIn_s1, rIn_s2, rIn_s3, rMax2_int, rMin2_int, rInt1_int, rSl_str, rSl_tup, rev_app, revK_tup, seqX_app, seqK_tup, seqK_str, zip_app, zipK_tup, rLt_int, rLe_int, rGt_int, rGe_int, rLt_str, rLe_str, rGt_str, rGe_str, rOrd_encS, DD.rEq_int, DD.rEq_str, DD.rEq_bl, DD.rNe_int, DD.rNe_str, rEq_encS, rEq_encO, rEq_OS, atI_0, atI_1, atI_2, atI_3, atI_4, atI_5, atI_snoc, ob_some, gup_same, List.map_cons, List.map_nil, List.length_cons, List.length_nil, List.cons_append, List.nil_append, List.getElem?_cons_zero, List.getElem?_cons_succ, List.set_cons_zero, List.set_cons_succ, List.replicate_zero, List.replicate_succ, Nat.reduceSub, Nat.reduceAdd, if_true, if_false, Bool.false_eq_true, Bool.not_true, Bool.not_false, true_and, and_true]
    refine spans_use hW hL ?_
    rw [seqK_tup]
    have hsh := shownL_len hW
    have hfl : (flatVV (spansM L)).length = (shownL L).length := by rw [flatVV_spans hW, List.length_map]
    refine forL_ind (fun i δ G => G pd = some (.lst ((shownL L).map fun s => encVV (vv L s))) ∧ G pt = some (.lst ((flatVV ((spansM L).take i)).map encVV)) ∧ ∃ r4, δ = [some (.tup (L.map M.encD)), some (.ref pd), r2, some (.ref pt), r4, r5]) ?_ ?_ _ _ ⟨gk hG hpt, gup_same, none, rfl⟩
    · rintro i d F hd hF δ G ⟨hG, hT, r4, rfl⟩
      obtain ⟨x, hx, rfl, hm⟩ := map_get hd
      refine ⟨trivial, ?_⟩
      have ex : encSp x = .tup [.str x.1, encV x.2.1, encV x.2.2] := rfl
      simp only [set_app, drop_app, ret_app, asg_app, par_app, par3_app, put_app, next_app, cont_app, break_app, seq_set, seq_drop, seq_ret, seq_asg, seq_par, seq_par3, seq_put, seq_next, dOp, dUn, dVar, dC, dTup, dLst, dNil, dCons, dCall, dCB, dBM, isTy_str, dTB, dAndT, dOrT, dNotT, dAnd, dOr, dNot, dIf, dTru, truth, dChain, dSl, dPart, dNoPart,  dLc,  dRng1, dRng2,  dEnumT, dgName, dgTup, dgCons, dgNil, dDct0, dYes, dwipe, dstart, rAdd_int, rAdd_str, rAdd_tup, rSub_int, rMul_int, rMod_int, rFdiv_int, rNeg_int, rIs_non, rIsNot_non, rIs_bl, DD.isNonD, isi_tuple_non, isi_tuple_bl, isi_tuple_int, isi_tuple_str, isi_tuple_tup, isi_bool_non, isi_bool_bl, isi_bool_int, isi_bool_str, isi_bool_tup, isi_int_non, isi_int_bl, isi_int_int, isi_int_str, isi_int_tup, isi_str_non, isi_str_bl, isi_str_int, isi_str_str, isi_str_tup, isi_list_non, isi_list_bl, isi_list_int, isi_list_str, isi_list_tup, isi_is_int, isi_is_str, isi_is_non, isi_is_tup, rIx_str, rIx_tup, rIx_scr, rLen_str, rLen_tup, rLen_scr, rTuple_tup, rList_tup, rIn_s1, rIn_s2, rIn_s3, rMax2_int, rMin2_int, rInt1_int, rSl_str, rSl_tup, rev_app, revK_tup, seqX_app, seqK_tup, seqK_str, zip_app, zipK_tup, rLt_int, rLe_int, rGt_int, rGe_int, rLt_str, rLe_str, rGt_str, rGe_str, rOrd_encS, DD.rEq_int, DD.rEq_str, DD.rEq_bl, DD.rNe_int, DD.rNe_str, rEq_encS, rEq_encO, rEq_OS, atI_0, atI_1, atI_2, atI_3, atI_4, atI_5, atI_snoc, ob_some, gup_same, List.map_cons, List.map_nil, List.length_cons, List.length_nil, List.cons_append, List.nil_append, List.getElem?_cons_zero, List.getElem?_cons_succ, List.set_cons_zero, List.set_cons_succ, List.replicate_zero, List.replicate_succ, Nat.reduceSub, Nat.reduceAdd, if_true, if_false, Bool.false_eq_true, Bool.not_true, Bool.not_false, true_and, and_true]
      rw [isTy_lst hT]
      refine ⟨trivial, ?_⟩
      rw [ex]
      simp only [set_app, drop_app, ret_app, asg_app, par_app, par3_app, put_app, next_app, cont_app, break_app, seq_set, seq_drop, seq_ret, seq_asg, seq_par, seq_par3, seq_put, seq_next, dOp, dUn, dVar, dC, dTup, dLst, dNil, dCons, dCall, dCB, dBM, isTy_str, dTB, dAndT, dOrT, dNotT, dAnd, dOr, dNot, dIf, dTru, truth, dChain, dSl, dPart, dNoPart,  dLc,  dRng1, dRng2,  dEnumT, dgName, dgTup, dgCons, dgNil, dDct0, dYes, dwipe, dstart, rAdd_int, rAdd_str, rAdd_tup, rSub_int, rMul_int, rMod_int, rFdiv_int, rNeg_int, rIs_non, rIsNot_non, rIs_bl, DD.isNonD, isi_tuple_non, isi_tuple_bl, isi_tuple_int, isi_tuple_str, isi_tuple_tup, isi_bool_non, isi_bool_bl, isi_bool_int, isi_bool_str, isi_bool_tup, isi_int_non, isi_int_bl, isi_int_int, isi_int_str, isi_int_tup, isi_str_non, isi_str_bl, isi_str_int, isi_str_str, isi_str_tup, isi_list_non, isi_list_bl, isi_list_int, isi_list_str, isi_list_tup, isi_is_int, isi_is_str, isi_is_non, isi_is_tup, rIx_str, rIx_tup, rIx_scr, rLen_str, rLen_tup, rLen_scr, rTuple_tup, rList_tup, rIn_s1, rIn_s2, rIn_s3, rMax2_int, rMin2_int, rInt1_int, rSl_str, rSl_tup, rev_app, revK_tup, seqX_app, seqK_tup, seqK_str, zip_app, zipK_tup, rLt_int, rLe_int, rGt_int, rGe_int, rLt_str, rLe_str, rGt_str, rGe_str, rOrd_encS, DD.rEq_int, DD.rEq_str, DD.rEq_bl, DD.rNe_int, DD.rNe_str, rEq_encS, rEq_encO, rEq_OS, atI_0, atI_1, atI_2, atI_3, atI_4, atI_5, atI_snoc, ob_some, gup_same, List.map_cons, List.map_nil, List.length_cons, List.length_nil, List.cons_append, List.nil_append, List.getElem?_cons_zero, List.getElem?_cons_succ, List.set_cons_zero, List.set_cons_succ, List.replicate_zero, List.replicate_succ, Nat.reduceSub, Nat.reduceAdd, if_true, if_false, Bool.false_eq_true, Bool.not_true, Bool.not_false, true_and, and_true]
      rw [cutE]
      intro p1 hp1
      have hxl := flatVV_mem hm
      have er : ∀ {G : DG} {Q : DK}, G p1 = some (.lst [.tup [encV x.2.1, encV x.2.2]]) → (∀ p, G p = none → Q (.ref p) (gup G p (.lst (List.replicate x.1.length (encVV x.2))))) → DD.rMul (.ref p1) (.int (x.1.length : Int)) G Q := by
        intro G Q h q
        show (match G p1 with | some (.lst xs) => (0 ≤ (x.1.length : Int) ∧ (x.1.length : Int) ≤ 1000 ∧ xs.length ≤ 1000) ∧ ∀ p, G p = none → Q (.ref p) (gup G p (.lst (List.replicate (x.1.length : Int).toNat xs).flatten)) | _ => False)
        rw [h]
        refine ⟨⟨by omega, by omega, by show 1 ≤ 1000; omega⟩, fun p hp => ?_⟩
        rw [Int.toNat_natCast, rep_one]
        exact q p hp
      refine er gup_same fun p2 hp2 => ?_
      rw [rExtend_lst (gk (gk hT hp1) hp2) gup_same]
      have h1 := flatVV_take (spansM L) i
      refine ⟨by rw [List.length_map, List.length_replicate]; omega, hF _ _ ⟨?_, ?_, _, rfl⟩⟩
      · exact gw (gk (gk hG hp1) hp2) npt
      · rw [gup_same, take_snoc hx]
        unfold flatVV
        rw [List.flatMap_append, List.map_append]
        simp
    · rintro δ G ⟨hG, hT, r4, rfl⟩
      rw [List.length_map, List.take_length, flatVV_spans hW, List.map_map] at hT
      refine ⟨trivial, ?_⟩
      simp only [set_app, drop_app, ret_app, asg_app, par_app, par3_app, put_app, next_app, cont_app, break_app, seq_set, seq_drop, seq_ret, seq_asg, seq_par, seq_par3, seq_put, seq_next, dOp, dUn, dVar, dC, dTup, dLst, dNil, dCons, dCall, dCB, dBM, isTy_str, dTB, dAndT, dOrT, dNotT, dAnd, dOr, dNot, dIf, dTru, truth, dChain, dSl, dPart, dNoPart,  dLc,  dRng1, dRng2,  dEnumT, dgName, dgTup, dgCons, dgNil, dDct0, dYes, dwipe, dstart, rAdd_int, rAdd_str, rAdd_tup, rSub_int, rMul_int, rMod_int, rFdiv_int, rNeg_int, rIs_non, rIsNot_non, rIs_bl, DD.isNonD, isi_tuple_non, isi_tuple_bl, isi_tuple_int, isi_tuple_str, isi_tuple_tup, isi_bool_non, isi_bool_bl, isi_bool_int, isi_bool_str, isi_bool_tup, isi_int_non, isi_int_bl, isi_int_int, isi_int_str, isi_int_tup, isi_str_non, isi_str_bl, isi_str_int, isi_str_str, isi_str_tup, isi_list_non, isi_list_bl, isi_list_int, isi_list_str, isi_list_tup, isi_is_int, isi_is_str, isi_is_non, isi_is_tup, rIx_str, rIx_tup, rIx_scr, rLen_str, rLen_tup, rLen_scr, rTuple_tup, rList_tup, rIn_s1, rIn_s2, rIn_s3, rMax2_int, rMin2_int, rInt1_int, rSl_str, rSl_tup, rev_app, revK_tup, seqX_app, seqK_tup, seqK_str, zip_app, zipK_tup, rLt_int, rLe_int, rGt_int, rGe_int, rLt_str, rLe_str, rGt_str, rGe_str, rOrd_encS, DD.rEq_int, DD.rEq_str, DD.rEq_bl, DD.rNe_int, DD.rNe_str, rEq_encS, rEq_encO, rEq_OS, atI_0, atI_1, atI_2, atI_3, atI_4, atI_5, atI_snoc, ob_some, gup_same, List.map_cons, List.map_nil, List.length_cons, List.length_nil, List.cons_append, List.nil_append, List.getElem?_cons_zero, List.getElem?_cons_succ, List.set_cons_zero, List.set_cons_succ, List.replicate_zero, List.replicate_succ, Nat.reduceSub, Nat.reduceAdd, if_true, if_false, Bool.false_eq_true, Bool.not_true, Bool.not_false, true_and, and_true]
      rw [rEq_lst hT hG (flats_map _ (fun s => flat_encVV _) _) (flats_map _ (fun s => flat_encVV _) _) (Nat.le_trans (dp_map _ 1 (fun s => dp_encVV _) _) (by decide))]
      have e1 : eqPs (toPs ((shownL L).map (encVV ∘ vv L))) (toPs ((shownL L).map fun s => encVV (vv L s))) = true := eqPs_self _
      rw [e1]
      simp only [ob_some, if_true]
      refine text_use hW hL ?_
      rw [rLen_str, rLen_lst hG, DD.rEq_int, List.length_map]
      have h3 : (textM L).length = (shownL L).length := textM_len hW
      rw [h3]
      exact congrArg D.bl (by simp)
theorem good__law_is_told {P : Program} {w : World} {K : PySem.W.Frag} {mg : Str → Option Value} {base : Heap} (D0 : DefAt K mg "_law_is_told" (top 31)) (g_len : mg "len" = none) (G_is_paper : Good P w K mg base "is_paper" ps_is_paper 5 sp_is_paper) (G_is_shown : Good P w K mg base "is_shown" ps_is_shown 2 sp_is_shown) (G_order : Good P w K mg base "order" ps_order 1 sp_order) (G_paper : Good P w K mg base "paper" ps_paper 4 sp_paper) (G_spans : Good P w K mg base "spans" ps_spans 4 sp_spans) (G_text : Good P w K mg base "text" ps_text 4 sp_text) (G_value : Good P w K mg base "value" ps_value 3 sp_value) : Good P w K mg base "_law_is_told" ps__law_is_told 6 sp__law_is_told :=
  goodP D0 sc__law_is_told t__law_is_told bind__law_is_told len__law_is_told (fun f cdv A outer s H E hr => der__law_is_told g_len G_is_paper G_is_shown G_order G_paper G_spans G_text G_value f cdv A outer s H E hr) pure__law_is_told
/-! ### _law_is_all_marked -/
theorem eqD_self' (d : D) : eqD d d = true := eqP_self _
theorem told_use2 {L : List Deed} {G : DG} {Q : DK} {RE : DX} (hW : Wf L) (hL : L.length ≤ 1000) (q : Q (.bl true) G) : sp__law_is_told [.tup (L.map M.encD)] G Q RE := ⟨_, ⟨L, ⟨rfl, hW, hL⟩, rfl⟩, q⟩
def rel__law_is_all_marked (ds : List D) (d : D) : Prop := ∃ (L : List Deed) (n : Int), ds = [.tup (L.map M.encD), .tup ((ordI L).map encS), .int n] ∧ Wf L ∧ L.length ≤ 100 ∧ (∀ e ∈ L, e.st.1 < n) ∧ ordI L ≠ [] ∧ d = .bl true
def sp__law_is_all_marked : DSp := spP rel__law_is_all_marked
abbrev N__law_is_all_marked : List Str := ["_law_deeds_here", "_law_row", "_law_number", "_law_mine", "_law_yours", "_law_bold", "_law_every", "_law_undone", "_law_again", "_law_one"]
abbrev ps__law_is_all_marked : List Str := ["_law_deeds_here", "_law_row", "_law_number"]
def t__law_is_all_marked : DTS :=
  (dSeq (dPar 3 4 (dCons (dTup (dCons (dVar 2) (dCons (dC (.str "m")) dNil))) (dCons (dTup (dCons (dVar 2) (dCons (dC (.str "n")) dNil))) dNil))) (dSeq (dSet 5 (dTup (dCons (dC (.str "mark")) (dCons (dVar 3) (dCons (dC (.str "bold")) (dCons (dOp rIx (dVar 1) (dC (.int 0))) (dCons (dC .non) (dCons (dC (.bl true)) dNil)))))))) (dSeq (dSet 6 (dOp rAdd (dVar 0) (dTup (dCons (dVar 5) (dCons (dTup (dCons (dC (.str "mark")) (dCons (dVar 4) (dCons (dC (.str "link")) (dCons (dOp rIx (dVar 1) (dC (.int 0))) (dCons (dOp rIx (dVar 1) (dUn rNeg (dC (.int 1)))) (dCons (dC (.str "q")) dNil))))))) dNil))))) (dSeq (dIfS (dOrT (dTB (dOp rNe (dLc (dSeqX (dCall sp_spans ex0 (dCons (dVar 6) dNil))) (dgName 9) (dTB (dOp rNe (dSl rSl (dVar 9) (dPart (dC (.int 1))) dNoPart) (dTup (dCons (dC (.bl true)) (dCons (dC (.str "q")) dNil))))) (dVar 9) [9]) (dLst dNil))) (dTB (dOp rNe (dCall sp_text ex0 (dCons (dVar 6) dNil)) (dCall sp_text ex0 (dCons (dVar 0) dNil))))) (dRet (dC (.bl false))) dNext) (dSeq (dSet 7 (dOp rAdd (dVar 6) (dTup (dCons (dTup (dCons (dC (.str "off")) (dCons (dTup (dCons (dOp rAdd (dVar 2) (dC (.int 1))) (dCons (dC (.str "a")) dNil))) (dCons (dVar 3) dNil)))) (dCons (dTup (dCons (dC (.str "off")) (dCons (dTup (dCons (dOp rAdd (dVar 2) (dC (.int 1))) (dCons (dC (.str "b")) dNil))) (dCons (dVar 4) dNil)))) dNil))))) (dSeq (dSet 8 (dOp rAdd (dVar 7) (dTup (dCons (dTup (dCons (dC (.str "on")) (dCons (dTup (dCons (dOp rAdd (dVar 2) (dC (.int 2))) (dCons (dC (.str "a")) dNil))) (dCons (dVar 3) dNil)))) (dCons (dTup (dCons (dC (.str "on")) (dCons (dTup (dCons (dOp rAdd (dVar 2) (dC (.int 3))) (dCons (dC (.str "a")) dNil))) (dCons (dVar 4) dNil)))) dNil))))) (dRet (dAnd (dOp rEq (dCall sp_spans ex0 (dCons (dVar 7) dNil)) (dCall sp_spans ex0 (dCons (dVar 0) dNil))) (dOp rEq (dCall sp_spans ex0 (dCons (dVar 8) dNil)) (dCall sp_spans ex0 (dCons (dVar 6) dNil)))))))))))
theorem sc__law_is_all_marked : FnScope N__law_is_all_marked ps__law_is_all_marked (defScope (top 30)) := ⟨rfl, rfl, rfl, by decide +kernel, rfl, by decide +kernel, by decide +kernel⟩
theorem der__law_is_all_marked {P : Program} {w : World} {K : PySem.W.Frag} {mg : Str → Option Value} {base : Heap} (G_spans : Good P w K mg base "spans" ps_spans 4 sp_spans) (G_text : Good P w K mg base "text" ps_text 4 sp_text) (f : Addr) (cdv : Value) (A : Around) (outer : List Env) (s : Shared) (H : Hp) (E : XK)
    (hr : Room 4 (A.deeper (envOfC "_law_is_all_marked" (defScope (top 30)) s.heap.objs.size f cdv))) :
    DSs (cxOf CX0 P w K mg base N__law_is_all_marked "_law_is_all_marked" (defScope (top 30)) f cdv A outer s H E).nox (Rg.top K w) (defBody (top 30)) t__law_is_all_marked := by
  have S := sc__law_is_all_marked
  exact (dss_cons (ds_par (i := 3) (j := 4) rfl S.nd rfl rfl (by decide) rfl rfl (da_cons (de_tup (da_cons (de_var (pv 2)) (da_cons de_str da_nil))) (da_cons (de_tup (da_cons (de_var (pv 2)) (da_cons de_str da_nil))) da_nil)) rfl)
    (dss_cons (ds_set (i := 5) S.nd rfl (by first | exact Or.inl rfl | exact Or.inr rfl) (de_tup (da_cons de_str (da_cons (de_var (pv 3)) (da_cons de_str (da_cons (de_ix (ix_D hr.units) (de_var (pv 1)) de_int) (da_cons de_non (da_cons de_bl da_nil))))))))
    (dss_cons (ds_set (i := 6) S.nd rfl (by first | exact Or.inl rfl | exact Or.inr rfl) (de_op op_addD (de_var (pv 0)) (de_tup (da_cons (de_var (pv 5)) (da_cons (de_tup (da_cons de_str (da_cons (de_var (pv 4)) (da_cons de_str (da_cons (de_ix (ix_D hr.units) (de_var (pv 1)) de_int) (da_cons (de_ix (ix_D hr.units) (de_var (pv 1)) (de_un op_negD de_int)) (da_cons de_str da_nil))))))) da_nil)))))
    (dss_cons (ds_if (dt_w (dw_or (dt_cmp (op_neD hr.units) (de_lc (own := [("_law_one", 9)]) rfl S.nd (di_seq (de_callG G_spans hr rfl (da_cons (de_var (pv 6)) da_nil))) (show BlkOk N__law_is_all_marked (defScope (top 30)) _ _ from ⟨rfl, by decide +kernel, by decide +kernel, by decide +kernel, by decide +kernel⟩) (fun _ _ _ _ _ => (dg_name (pg_name (i := 9) S.nd rfl (by first | exact Or.inl rfl | exact Or.inr rfl)) (by decide) (by decide))) (fun _ _ _ _ _ => (dts_one (dt_cmp (op_neD hr.units) (de_slice sl_D (de_var (pv 9)) (do_some de_int) do_none) (de_tup (da_cons de_bl (da_cons de_str da_nil))) (by rfl)))) (fun _ _ _ _ _ => (de_var (pv 9)))) (de_lst da_nil) (by rfl)) (dw_or1 (dt_cmp (op_neD hr.units) (de_callG G_text hr rfl (da_cons (de_var (pv 6)) da_nil)) (de_callG G_text hr rfl (da_cons (de_var (pv 0)) da_nil)) (by rfl))))) (dss_one (ds_ret de_bl)) dss_nil)
    (dss_cons (ds_set (i := 7) S.nd rfl (by first | exact Or.inl rfl | exact Or.inr rfl) (de_op op_addD (de_var (pv 6)) (de_tup (da_cons (de_tup (da_cons de_str (da_cons (de_tup (da_cons (de_op op_addD (de_var (pv 2)) de_int) (da_cons de_str da_nil))) (da_cons (de_var (pv 3)) da_nil)))) (da_cons (de_tup (da_cons de_str (da_cons (de_tup (da_cons (de_op op_addD (de_var (pv 2)) de_int) (da_cons de_str da_nil))) (da_cons (de_var (pv 4)) da_nil)))) da_nil)))))
    (dss_cons (ds_set (i := 8) S.nd rfl (by first | exact Or.inl rfl | exact Or.inr rfl) (de_op op_addD (de_var (pv 7)) (de_tup (da_cons (de_tup (da_cons de_str (da_cons (de_tup (da_cons (de_op op_addD (de_var (pv 2)) de_int) (da_cons de_str da_nil))) (da_cons (de_var (pv 3)) da_nil)))) (da_cons (de_tup (da_cons de_str (da_cons (de_tup (da_cons (de_op op_addD (de_var (pv 2)) de_int) (da_cons de_str da_nil))) (da_cons (de_var (pv 4)) da_nil)))) da_nil)))))
    (dss_one (ds_ret (de_and (de_cmp (op_eqD hr.units) (de_callG G_spans hr rfl (da_cons (de_var (pv 7)) da_nil)) (de_callG G_spans hr rfl (da_cons (de_var (pv 0)) da_nil)) (by rfl)) (de_one (de_cmp (op_eqD hr.units) (de_callG G_spans hr rfl (da_cons (de_var (pv 8)) da_nil)) (de_callG G_spans hr rfl (da_cons (de_var (pv 6)) da_nil)) (by rfl))))))))))))
theorem bind__law_is_all_marked (kV doc pm : Value) (an : Option Addr) (cdv ct : Value) (us : List Value) (hl : us.length = ps__law_is_all_marked.length) : bindArgs (PySem.W.fnOf "_law_is_all_marked" "_law_is_all_marked" (defArgs (top 30)) (defBody (top 30)) (defScope (top 30)) .none kV doc pm an cdv ct) ⟨us, []⟩ = pure (ps__law_is_all_marked.zip us) := match us, hl with | [_, _, _], _ => rfl
theorem len__law_is_all_marked : ∀ ds d, rel__law_is_all_marked ds d → ds.length = ps__law_is_all_marked.length := by
  rintro ds d ⟨L, n, rfl, _⟩; rfl
theorem rNe_lst {G : DG} {Q : DK} {a b : Addr} {xs ys : List D} (h1 : G a = some (.lst xs)) (h2 : G b = some (.lst ys)) (f1 : flats xs = true) (f2 : flats ys = true) (hd : dpPs (toPs xs) ≤ 50) : DD.rNe (.ref a) (.ref b) G Q = Q (.bl (!eqPs (toPs xs) (toPs ys))) G := by
  unfold DD.rNe
  have e1 : res G (.ref a) = some (.lst (toPs xs)) := by rw [res, h1]; simp [f1]
  have e2 : res G (.ref b) = some (.lst (toPs ys)) := by rw [res, h2]; simp [f2]
  rw [e1, e2]
  refine propext ⟨fun q => q.2, fun q => ⟨.inl ?_, q⟩⟩
  show dpPs (toPs xs) + 1 ≤ 60
  omega
theorem pure__law_is_all_marked : ∀ ds d, rel__law_is_all_marked ds d → t__law_is_all_marked { nx := fun _ _ => .non = d, rt := fun d' _ => d' = d } (dstart N__law_is_all_marked ds) g0 := by
  rintro ds d ⟨L, n, rfl, hW, hL, H, hne, rfl⟩
  obtain ⟨r0, h0⟩ : ∃ r0, (ordI L).head? = some r0 := by
    cases q : ordI L with
    | nil => exact (hne q).elim
    | cons x l => exact ⟨x, rfl⟩
  obtain ⟨rl, hl⟩ : ∃ rl, (ordI L).getLast? = some rl := ⟨_, List.getLast?_eq_some_getLast hne⟩
  have m0 : r0 ∈ lets L := (ordI_ok hW).2.1 r0 (List.mem_of_mem_head? (by rw [h0]; rfl))
  have ml : rl ∈ lets L := (ordI_ok hW).2.1 rl (List.mem_of_getLast? hl)
  have i0 : atI ((ordI L).map encS) 0 = some (encS r0) := by
    cases q : ordI L with
    | nil => exact (hne q).elim
    | cons x l => rw [q] at h0; cases h0; exact atI_0
  have il : atI ((ordI L).map encS) (-1) = some (encS rl) := by rw [DD.atI_last, List.getLast?_map, hl]; rfl
  simp only [t__law_is_all_marked, N__law_is_all_marked, set_app, drop_app, ret_app, asg_app, par_app, par3_app, put_app, next_app, cont_app, break_app, seq_set, seq_drop, seq_ret, seq_asg, seq_par, seq_par3, seq_put, seq_next, dOp, dUn, dVar, dC, dTup, dLst, dNil, dCons, dCall, dCB, dBM, isTy_str, dTB, dAndT, dOrT, dNotT, dAnd, dOr, dNot, dIf, dTru, truth, dChain, dSl, dPart, dNoPart,  dLc,  dRng1, dRng2,  dEnumT, dgName, dgTup, dgCons, dgNil, dDct0, dYes, dwipe, dstart, rAdd_int, rAdd_str, rAdd_tup, rSub_int, rMul_int, rMod_int, rFdiv_int, rNeg_int, rIs_non, rIsNot_non, rIs_bl, DD.isNonD, isi_tuple_non, isi_tuple_bl, isi_tuple_int, isi_tuple_str, isi_tuple_tup, isi_bool_non, isi_bool_bl, isi_bool_int, isi_bool_str, isi_bool_tup, isi_int_non, isi_int_bl, isi_int_int, isi_int_str, isi_int_tup, isi_str_non, isi_str_bl, isi_str_int, isi_str_str, isi_str_tup, isi_list_non, isi_list_bl, isi_list_int, isi_list_str, isi_list_tup, isi_is_int, isi_is_str, isi_is_non, isi_is_tup, rIx_str, rIx_tup, rIx_scr, rLen_str, rLen_tup, rLen_scr, rTuple_tup, rList_tup, rIn_s1, rIn_s2, rIn_s3, rMax2_int, rMin2_int, rInt1_int, rSl_str, rSl_tup, rev_app, revK_tup, seqX_app, seqK_tup, seqK_str, zip_app, zipK_tup, rLt_int, rLe_int, rGt_int, rGe_int, rLt_str, rLe_str, rGt_str, rGe_str, rOrd_encS, DD.rEq_int, DD.rEq_str, DD.rEq_bl, DD.rNe_int, DD.rNe_str, rEq_encS, rEq_encO, rEq_OS, atI_0, atI_1, atI_2, atI_3, atI_4, atI_5, atI_snoc, ob_some, gup_same, List.map_cons, List.map_nil, List.length_cons, List.length_nil, List.cons_append, List.nil_append, List.getElem?_cons_zero, List.getElem?_cons_succ, List.set_cons_zero, List.set_cons_succ, List.replicate_zero, List.replicate_succ, Nat.reduceSub, Nat.reduceAdd, if_true, if_false, Bool.false_eq_true, Bool.not_true, Bool.not_false, true_and, and_true]
  rw [i0]
  simp only [set_app, drop_app, ret_app, asg_app, par_app, par3_app, put_app, next_app, cont_app, break_app, seq_set, seq_drop, seq_ret, seq_asg, seq_par, seq_par3, seq_put, seq_next, dOp, dUn, dVar, dC, dTup, dLst, dNil, dCons, dCall, dCB, dBM, isTy_str, dTB, dAndT, dOrT, dNotT, dAnd, dOr, dNot, dIf, dTru, truth, dChain, dSl, dPart, dNoPart,  dLc,  dRng1, dRng2,  dEnumT, dgName, dgTup, dgCons, dgNil, dDct0, dYes, dwipe, dstart, rAdd_int, rAdd_str, rAdd_tup, rSub_int, rMul_int, rMod_int, rFdiv_int, rNeg_int, rIs_non, rIsNot_non, rIs_bl, DD.isNonD, isi_tuple_non, isi_tuple_bl, isi_tuple_int, isi_tuple_str, isi_tuple_tup, isi_bool_non, isi_bool_bl, isi_bool_int, isi_bool_str, isi_bool_tup, isi_int_non, isi_int_bl, isi_int_int, isi_int_str, isi_int_tup, isi_str_non, isi_str_bl, isi_str_int, isi_str_str, isi_str_tup, isi_list_non, isi_list_bl, isi_list_int, isi_list_str, isi_list_tup, isi_is_int, isi_is_str, isi_is_non, isi_is_tup, rIx_str, rIx_tup, rIx_scr, rLen_str, rLen_tup, rLen_scr, rTuple_tup, rList_tup, rIn_s1, rIn_s2, rIn_s3, rMax2_int, rMin2_int, rInt1_int, rSl_str, rSl_tup, rev_app, revK_tup, seqX_app, seqK_tup, seqK_str, zip_app, zipK_tup, rLt_int, rLe_int, rGt_int, rGe_int, rLt_str, rLe_str, rGt_str, rGe_str, rOrd_encS, DD.rEq_int, DD.rEq_str, DD.rEq_bl, DD.rNe_int, DD.rNe_str, rEq_encS, rEq_encO, rEq_OS, atI_0, atI_1, atI_2, atI_3, atI_4, atI_5, atI_snoc, ob_some, gup_same, List.map_cons, List.map_nil, List.length_cons, List.length_nil, List.cons_append, List.nil_append, List.getElem?_cons_zero, List.getElem?_cons_succ, List.set_cons_zero, List.set_cons_succ, List.replicate_zero, List.replicate_succ, Nat.reduceSub, Nat.reduceAdd, if_true, if_false, Bool.false_eq_true, Bool.not_true, Bool.not_false, true_and, and_true]
  rw [il, ob_some]
  refine ⟨by rw [List.length_map]; omega, ?_⟩
  have eE : L.map M.encD ++ [D.tup [D.str (Str.ofString "mark"), D.tup [D.int n, D.str (Str.ofString "m")], D.str (Str.ofString "bold"), encS r0, D.non, D.bl true], D.tup [D.str (Str.ofString "mark"), D.tup [D.int n, D.str (Str.ofString "n")], D.str (Str.ofString "link"), encS r0, encS rl, D.str (Str.ofString "q")]] = (L ++ X1 n r0 r0 rl none).map M.encD := by
    rw [List.map_append]
    rfl
  rw [eE]
  have hW1 : Wf (L ++ X1 n r0 r0 rl none) := wf_two hW H m0 m0 (fun _ q => by cases q) ml
  have hW2 := wf_X2 (g := r0) (e := none) hW H m0 m0 (fun _ q => by cases q) ml
  have hW3 := wf_X3 (g := r0) (e := none) hW H m0 m0 (fun _ q => by cases q) ml
  have E1 := ext_X1 (f := r0) (g := r0) (h := rl) (e := none) H
  have E2 := ext_X2 (f := r0) (g := r0) (h := rl) (e := none) H
  have E3 := ext_X3 (f := r0) (g := r0) (h := rl) (e := none) H
  have len1 : (L ++ X1 n r0 r0 rl none).length ≤ 1000 := by rw [List.length_append]; show _ + 2 ≤ _; omega
  have len2 : (L ++ X2 n r0 r0 rl none).length ≤ 1000 := by rw [List.length_append]; show _ + 4 ≤ _; omega
  have len3 : (L ++ X3 n r0 r0 rl none).length ≤ 1000 := by rw [List.length_append]; show _ + 6 ≤ _; omega
  rw [seq_if]
  simp only [set_app, drop_app, ret_app, asg_app, par_app, par3_app, put_app, next_app, cont_app, break_app, seq_set, seq_drop, seq_ret, seq_asg, seq_par, seq_par3, seq_put, seq_next, dOp, dUn, dVar, dC, dTup, dLst, dNil, dCons, dCall, dCB, dBM, isTy_str, dTB, dAndT, dOrT, dNotT, dAnd, dOr, dNot, dIf, dTru, truth, dChain, dSl, dPart, dNoPart,  dLc,  dRng1, dRng2,  dEnumT, dgName, dgTup, dgCons, dgNil, dDct0, dYes, dwipe, dstart, rAdd_int, rAdd_str, rAdd_tup, rSub_int, rMul_int, rMod_int, rFdiv_int, rNeg_int, rIs_non, rIsNot_non, rIs_bl, DD.isNonD, isi_tuple_non, isi_tuple_bl, isi_tuple_int, isi_tuple_str, isi_tuple_tup, isi_bool_non, isi_bool_bl, isi_bool_int, isi_bool_str, isi_bool_tup, isi_int_non, isi_int_bl, isi_int_int, isi_int_str, isi_int_tup, isi_str_non, isi_str_bl, isi_str_int, isi_str_str, isi_str_tup, isi_list_non, isi_list_bl, isi_list_int, isi_list_str, isi_list_tup, isi_is_int, isi_is_str, isi_is_non, isi_is_tup, rIx_str, rIx_tup, rIx_scr, rLen_str, rLen_tup, rLen_scr, rTuple_tup, rList_tup, rIn_s1, rIn_s2, rIn_s3, rMax2_int, rMin2_int, rInt1_int, rSl_str, rSl_tup, rev_app, revK_tup, seqX_app, seqK_tup, seqK_str, zip_app, zipK_tup, rLt_int, rLe_int, rGt_int, rGe_int, rLt_str, rLe_str, rGt_str, rGe_str, rOrd_encS, DD.rEq_int, DD.rEq_str, DD.rEq_bl, DD.rNe_int, DD.rNe_str, rEq_encS, rEq_encO, rEq_OS, atI_0, atI_1, atI_2, atI_3, atI_4, atI_5, atI_snoc, ob_some, gup_same, List.map_cons, List.map_nil, List.length_cons, List.length_nil, List.cons_append, List.nil_append, List.getElem?_cons_zero, List.getElem?_cons_succ, List.set_cons_zero, List.set_cons_succ, List.replicate_zero, List.replicate_succ, Nat.reduceSub, Nat.reduceAdd, if_true, if_false, Bool.false_eq_true, Bool.not_true, Bool.not_false, true_and, and_true]
  refine spans_use hW1 len1 ?_
  have hall := spans_const (L := L ++ X1 n r0 r0 rl none) (v := (.b true, .t "q")) fun s hs => by
    rw [E1.shownL hW] at hs
    exact vv_X1 hW H h0 hl (shownL_mem hW hs)
  refine lcL_ind (fun i acc G => acc = []) ?_ ?_ _ _ rfl
  · rintro i d F hd hF acc G rfl
    obtain ⟨x, hx, rfl, hm⟩ := map_get hd
    have ex : encSp x = .tup [.str x.1, encV x.2.1, encV x.2.2] := rfl
    refine ⟨trivial, ?_⟩
    simp only [set_app, drop_app, ret_app, asg_app, par_app, par3_app, put_app, next_app, cont_app, break_app, seq_set, seq_drop, seq_ret, seq_asg, seq_par, seq_par3, seq_put, seq_next, dOp, dUn, dVar, dC, dTup, dLst, dNil, dCons, dCall, dCB, dBM, isTy_str, dTB, dAndT, dOrT, dNotT, dAnd, dOr, dNot, dIf, dTru, truth, dChain, dSl, dPart, dNoPart,  dLc,  dRng1, dRng2,  dEnumT, dgName, dgTup, dgCons, dgNil, dDct0, dYes, dwipe, dstart, rAdd_int, rAdd_str, rAdd_tup, rSub_int, rMul_int, rMod_int, rFdiv_int, rNeg_int, rIs_non, rIsNot_non, rIs_bl, DD.isNonD, isi_tuple_non, isi_tuple_bl, isi_tuple_int, isi_tuple_str, isi_tuple_tup, isi_bool_non, isi_bool_bl, isi_bool_int, isi_bool_str, isi_bool_tup, isi_int_non, isi_int_bl, isi_int_int, isi_int_str, isi_int_tup, isi_str_non, isi_str_bl, isi_str_int, isi_str_str, isi_str_tup, isi_list_non, isi_list_bl, isi_list_int, isi_list_str, isi_list_tup, isi_is_int, isi_is_str, isi_is_non, isi_is_tup, rIx_str, rIx_tup, rIx_scr, rLen_str, rLen_tup, rLen_scr, rTuple_tup, rList_tup, rIn_s1, rIn_s2, rIn_s3, rMax2_int, rMin2_int, rInt1_int, rSl_str, rSl_tup, rev_app, revK_tup, seqX_app, seqK_tup, seqK_str, zip_app, zipK_tup, rLt_int, rLe_int, rGt_int, rGe_int, rLt_str, rLe_str, rGt_str, rGe_str, rOrd_encS, DD.rEq_int, DD.rEq_str, DD.rEq_bl, DD.rNe_int, DD.rNe_str, rEq_encS, rEq_encO, rEq_OS, atI_0, atI_1, atI_2, atI_3, atI_4, atI_5, atI_snoc, ob_some, gup_same, List.map_cons, List.map_nil, List.length_cons, List.length_nil, List.cons_append, List.nil_append, List.getElem?_cons_zero, List.getElem?_cons_succ, List.set_cons_zero, List.set_cons_succ, List.replicate_zero, List.replicate_succ, Nat.reduceSub, Nat.reduceAdd, if_true, if_false, Bool.false_eq_true, Bool.not_true, Bool.not_false, true_and, and_true]
    rw [ex]
    simp only [set_app, drop_app, ret_app, asg_app, par_app, par3_app, put_app, next_app, cont_app, break_app, seq_set, seq_drop, seq_ret, seq_asg, seq_par, seq_par3, seq_put, seq_next, dOp, dUn, dVar, dC, dTup, dLst, dNil, dCons, dCall, dCB, dBM, isTy_str, dTB, dAndT, dOrT, dNotT, dAnd, dOr, dNot, dIf, dTru, truth, dChain, dSl, dPart, dNoPart,  dLc,  dRng1, dRng2,  dEnumT, dgName, dgTup, dgCons, dgNil, dDct0, dYes, dwipe, dstart, rAdd_int, rAdd_str, rAdd_tup, rSub_int, rMul_int, rMod_int, rFdiv_int, rNeg_int, rIs_non, rIsNot_non, rIs_bl, DD.isNonD, isi_tuple_non, isi_tuple_bl, isi_tuple_int, isi_tuple_str, isi_tuple_tup, isi_bool_non, isi_bool_bl, isi_bool_int, isi_bool_str, isi_bool_tup, isi_int_non, isi_int_bl, isi_int_int, isi_int_str, isi_int_tup, isi_str_non, isi_str_bl, isi_str_int, isi_str_str, isi_str_tup, isi_list_non, isi_list_bl, isi_list_int, isi_list_str, isi_list_tup, isi_is_int, isi_is_str, isi_is_non, isi_is_tup, rIx_str, rIx_tup, rIx_scr, rLen_str, rLen_tup, rLen_scr, rTuple_tup, rList_tup, rIn_s1, rIn_s2, rIn_s3, rMax2_int, rMin2_int, rInt1_int, rSl_str, rSl_tup, rev_app, revK_tup, seqX_app, seqK_tup, seqK_str, zip_app, zipK_tup, rLt_int, rLe_int, rGt_int, rGe_int, rLt_str, rLe_str, rGt_str, rGe_str, rOrd_encS, DD.rEq_int, DD.rEq_str, DD.rEq_bl, DD.rNe_int, DD.rNe_str, rEq_encS, rEq_encO, rEq_OS, atI_0, atI_1, atI_2, atI_3, atI_4, atI_5, atI_snoc, ob_some, gup_same, List.map_cons, List.map_nil, List.length_cons, List.length_nil, List.cons_append, List.nil_append, List.getElem?_cons_zero, List.getElem?_cons_succ, List.set_cons_zero, List.set_cons_succ, List.replicate_zero, List.replicate_succ, Nat.reduceSub, Nat.reduceAdd, if_true, if_false, Bool.false_eq_true, Bool.not_true, Bool.not_false, true_and, and_true]
    rw [cutE]
    have hx2 := hall x hm
    rw [hx2]
    have e2 : DD.rNe (D.tup [encV (Val.b true), encV (Val.t "q")]) (D.tup [D.bl true, D.str (Str.ofString "q")]) = DD.rNe (D.tup [encV (Val.b true), encV (Val.t "q")]) (D.tup [encV (Val.b true), encV (Val.t "q")]) := rfl
    show DD.rNe (D.tup [encV (Val.b true), encV (Val.t "q")]) (D.tup [D.bl true, D.str (Str.ofString "q")]) G _
    rw [e2, rNe_flat (flat_vv _ _) (flat_vv _ _) (.inl (dp_vv _ _)), eqD_self']
    exact hF _ _ rfl
  rintro acc G rfl
  refine ⟨trivial, fun p hp => ?_⟩
  intro p2 hp2
  rw [rNe_lst (gk gup_same hp2) gup_same rfl rfl (by show 0 ≤ 50; omega)]
  have e3 : eqPs (toPs []) (toPs []) = true := rfl
  rw [e3]
  simp only [Bool.not_true, Bool.false_eq_true, if_false]
  refine text_use hW1 len1 (text_use hW (by omega) ?_)
  rw [DD.rNe_str, text_cg (E1.shownL hW) fun s _ => E1.ltr s, beq_self_eq_true]
  simp only [set_app, drop_app, ret_app, asg_app, par_app, par3_app, put_app, next_app, cont_app, break_app, seq_set, seq_drop, seq_ret, seq_asg, seq_par, seq_par3, seq_put, seq_next, dOp, dUn, dVar, dC, dTup, dLst, dNil, dCons, dCall, dCB, dBM, isTy_str, dTB, dAndT, dOrT, dNotT, dAnd, dOr, dNot, dIf, dTru, truth, dChain, dSl, dPart, dNoPart,  dLc,  dRng1, dRng2,  dEnumT, dgName, dgTup, dgCons, dgNil, dDct0, dYes, dwipe, dstart, rAdd_int, rAdd_str, rAdd_tup, rSub_int, rMul_int, rMod_int, rFdiv_int, rNeg_int, rIs_non, rIsNot_non, rIs_bl, DD.isNonD, isi_tuple_non, isi_tuple_bl, isi_tuple_int, isi_tuple_str, isi_tuple_tup, isi_bool_non, isi_bool_bl, isi_bool_int, isi_bool_str, isi_bool_tup, isi_int_non, isi_int_bl, isi_int_int, isi_int_str, isi_int_tup, isi_str_non, isi_str_bl, isi_str_int, isi_str_str, isi_str_tup, isi_list_non, isi_list_bl, isi_list_int, isi_list_str, isi_list_tup, isi_is_int, isi_is_str, isi_is_non, isi_is_tup, rIx_str, rIx_tup, rIx_scr, rLen_str, rLen_tup, rLen_scr, rTuple_tup, rList_tup, rIn_s1, rIn_s2, rIn_s3, rMax2_int, rMin2_int, rInt1_int, rSl_str, rSl_tup, rev_app, revK_tup, seqX_app, seqK_tup, seqK_str, zip_app, zipK_tup, rLt_int, rLe_int, rGt_int, rGe_int, rLt_str, rLe_str, rGt_str, rGe_str, rOrd_encS, DD.rEq_int, DD.rEq_str, DD.rEq_bl, DD.rNe_int, DD.rNe_str, rEq_encS, rEq_encO, rEq_OS, atI_0, atI_1, atI_2, atI_3, atI_4, atI_5, atI_snoc, ob_some, gup_same, List.map_cons, List.map_nil, List.length_cons, List.length_nil, List.cons_append, List.nil_append, List.getElem?_cons_zero, List.getElem?_cons_succ, List.set_cons_zero, List.set_cons_succ, List.replicate_zero, List.replicate_succ, Nat.reduceSub, Nat.reduceAdd, if_true, if_false, Bool.false_eq_true, Bool.not_true, Bool.not_false, true_and, and_true]
  have e4 : (L ++ X1 n r0 r0 rl none).map M.encD ++ [D.tup [D.str (Str.ofString "off"), D.tup [D.int (n + 1), D.str (Str.ofString "a")], D.tup [D.int n, D.str (Str.ofString "m")]], D.tup [D.str (Str.ofString "off"), D.tup [D.int (n + 1), D.str (Str.ofString "b")], D.tup [D.int n, D.str (Str.ofString "n")]]] = (L ++ X2 n r0 r0 rl none).map M.encD := by
    rw [List.map_append, List.map_append, List.append_assoc]
    rfl
  have en2 : n + 2 = n + 1 + 1 := by omega
  have en3 : n + 3 = n + 1 + 1 + 1 := by omega
  have e5 : (L ++ X2 n r0 r0 rl none).map M.encD ++ [D.tup [D.str (Str.ofString "on"), D.tup [D.int (n + 2), D.str (Str.ofString "a")], D.tup [D.int n, D.str (Str.ofString "m")]], D.tup [D.str (Str.ofString "on"), D.tup [D.int (n + 3), D.str (Str.ofString "a")], D.tup [D.int n, D.str (Str.ofString "n")]]] = (L ++ X3 n r0 r0 rl none).map M.encD := by
    rw [List.map_append, List.map_append, List.append_assoc, en2, en3]
    rfl
  rw [e4, e5]
  refine ⟨by rw [List.length_map]; omega, by rw [List.length_map]; omega, spans_use hW2 len2 (spans_use hW (by omega) ?_)⟩
  have s2 : spansM (L ++ X2 n r0 r0 rl none) = spansM L := spans_cg (E2.shownL hW) fun s _ => ⟨E2.ltr s, vv_X2 hW H s⟩
  have s3 : spansM (L ++ X3 n r0 r0 rl none) = spansM (L ++ X1 n r0 r0 rl none) := spans_cg ((E3.shownL hW).trans (E1.shownL hW).symm) fun s hs => by
    rw [E1.shownL hW] at hs
    have hs' := shownL_mem hW hs
    exact ⟨(E3.ltr s).trans (E1.ltr s).symm, (vv_X3 hW H h0 hl hs').trans (vv_X1 hW H h0 hl hs').symm⟩
  rw [s2, eq_spans, eqD_self']
  simp only [ob_some, if_true]
  refine spans_use hW3 len3 (spans_use hW1 len1 ?_)
  rw [s3, eq_spans, eqD_self']
theorem good__law_is_all_marked {P : Program} {w : World} {K : PySem.W.Frag} {mg : Str → Option Value} {base : Heap} (D0 : DefAt K mg "_law_is_all_marked" (top 30)) (G_spans : Good P w K mg base "spans" ps_spans 4 sp_spans) (G_text : Good P w K mg base "text" ps_text 4 sp_text) : Good P w K mg base "_law_is_all_marked" ps__law_is_all_marked 5 sp__law_is_all_marked :=
  goodP D0 sc__law_is_all_marked t__law_is_all_marked bind__law_is_all_marked len__law_is_all_marked (fun f cdv A outer s H E hr => der__law_is_all_marked G_spans G_text f cdv A outer s H E hr) pure__law_is_all_marked
theorem am_use {L : List Deed} {n : Int} {G : DG} {Q : DK} {RE : DX} (hW : Wf L) (hL : L.length ≤ 100) (H : ∀ e ∈ L, e.st.1 < n) (hne : ordI L ≠ []) (q : Q (.bl true) G) : sp__law_is_all_marked [.tup (L.map M.encD), .tup ((ordI L).map encS), .int n] G Q RE := ⟨_, ⟨L, n, rfl, hW, hL, H, hne, rfl⟩, q⟩
/-! ### the law -/
theorem wf_ne {L : List Deed} (hW : Wf L) (h : L ≠ []) : ordI L ≠ [] := by
  intro z
  have hl : lets L = [] := by
    cases q : lets L with
    | nil => rfl
    | cons s l =>
      have := ordI_all hW s (by rw [q]; exact List.mem_cons_self)
      rw [z] at this
      cases this
  cases L with
  | nil => exact h rfl
  | cons d L =>
    have w := hW.take 1
    have f := (show Wf ([] ++ [d]) from w).inv.2.1
    cases d with
    | write s a c => cases hl
    | cut s g => cases (show g ∈ ([] : List Stp) from f)
    | mark s b f' e v => cases (show f' ∈ ([] : List Stp) from f.1)
    | sw on s g => rcases f with f | f <;> cases (show g ∈ ([] : List Stp) from f)
theorem num_last {L : List Deed} {d : Deed} (hS : Srt (L ++ [d])) : ∀ e ∈ L ++ [d], e.st.1 < d.st.1 + 1 := by
  intro e he
  rcases List.mem_append.mp he with a | a
  · have := (List.pairwise_append.mp hS).2.2 e a d List.mem_cons_self
    rcases ltS_iff.mp this with h | h
    · omega
    · omega
  · rw [List.mem_singleton.mp a]; omega
abbrev N_law : List Str := ["_law_script", "_law_k", "_law_cell_here", "_law_deeds_here", "_law_row", "_law_number", "_law_at", "_law_end", "_law_bold", "_law_marked", "_law_new", "_law_letter_here", "_law_more"]
abbrev ps_law : List Str := ["_law_script"]
def t_law : DTS :=
  (dSeq (dFor (dRng1 (dCons (dC (.int 8)) dNil)) (dgName 1) (dSeq (dSet 2 (dOp rAdd (dCall sp__law_cell ex0 (dCons (dVar 0) (dCons (dVar 1) dNil))) (dOp rMul (dC (.int 3)) (dVar 1)))) (dSeq (dSet 3 (dCall sp__law_deeds ex0 (dCons (dVar 2) (dCons (dOp rAdd (dC (.int 1)) (dCall sp__law_mix ex0 (dCons (dVar 2) (dCons (dC (.int 9833)) (dCons (dC (.int 24)) dNil))))) dNil)))) (dSeq (dSet 4 (dCall sp_order ex0 (dCons (dVar 3) dNil))) (dSeq (dSet 5 (dOp rAdd (dOp rIx (dOp rIx (dOp rIx (dVar 3) (dUn rNeg (dC (.int 1)))) (dC (.int 1))) (dC (.int 0))) (dC (.int 1)))) (dSeq (dIfS (dNotT (dTru (dCall sp__law_is_all_marked ex0 (dCons (dVar 3) (dCons (dVar 4) (dCons (dVar 5) dNil)))))) (dRet (dC (.bl false))) dNext) (dSeq (dSet 6 (dCall sp__law_mix ex0 (dCons (dOp rAdd (dCall sp__law_cell ex0 (dCons (dVar 0) (dCons (dC (.int 8)) dNil))) (dVar 1)) (dCons (dC (.int 9817)) (dCons (dCB rLen (dCons (dVar 4) dNil)) dNil))))) (dSeq (dSet 7 (dOp rIx (dOp rAdd (dVar 4) (dTup (dCons (dC .non) dNil))) (dOp rAdd (dVar 6) (dC (.int 1))))) (dSeq (dSet 8 (dTup (dCons (dC (.str "mark")) (dCons (dTup (dCons (dVar 5) (dCons (dC (.str "m")) dNil))) (dCons (dC (.str "bold")) (dCons (dOp rIx (dVar 4) (dVar 6)) (dCons (dVar 7) (dCons (dC (.bl true)) dNil)))))))) (dSeq (dSet 9 (dOp rAdd (dVar 3) (dTup (dCons (dVar 8) (dCons (dTup (dCons (dC (.str "mark")) (dCons (dTup (dCons (dVar 5) (dCons (dC (.str "n")) dNil))) (dCons (dC (.str "link")) (dCons (dOp rIx (dVar 4) (dVar 6)) (dCons (dOp rIx (dVar 4) (dVar 6)) (dCons (dC (.str "q")) dNil))))))) dNil))))) (dSeq (dSet 10 (dTup (dCons (dOp rAdd (dVar 5) (dC (.int 1))) (dCons (dC (.str "c")) dNil)))) (dSeq (dSet 11 (dTup (dCons (dC (.str "write")) (dCons (dVar 10) (dCons (dOp rIx (dVar 4) (dVar 6)) (dCons (dC (.str "x")) dNil)))))) (dSeq (dSet 12 (dOp rAdd (dVar 9) (dTup (dCons (dVar 11) dNil)))) (dSeq (dIfS (dOrT (dTB (dOp rIsNot (dCall sp_value ex0 (dCons (dVar 12) (dCons (dVar 10) (dCons (dC (.str "bold")) dNil)))) (dC (.bl true)))) (dTB (dOp rNe (dCall sp_teller ex0 (dCons (dVar 12) (dCons (dVar 10) (dCons (dC (.str "bold")) dNil)))) (dTup (dCons (dVar 5) (dCons (dC (.str "m")) dNil)))))) (dRet (dC (.bl false))) dNext) (dSeq (dIfS (dTB (dOp rNe (dCall sp_teller ex0 (dCons (dVar 12) (dCons (dOp rIx (dVar 4) (dVar 6)) (dCons (dC (.str "link")) dNil)))) (dTup (dCons (dVar 5) (dCons (dC (.str "n")) dNil))))) (dRet (dC (.bl false))) dNext) (dIfS (dOrT (dTB (dOp rNe (dCall sp_value ex0 (dCons (dVar 12) (dCons (dVar 10) (dCons (dC (.str "link")) dNil)))) (dCall sp_value ex0 (dCons (dOp rAdd (dVar 3) (dTup (dCons (dVar 11) dNil))) (dCons (dVar 10) (dCons (dC (.str "link")) dNil)))))) (dNotT (dTru (dCall sp__law_is_told ex0 (dCons (dVar 12) dNil))))) (dRet (dC (.bl false))) dNext)))))))))))))))) (dRet (dC (.bl true))))
theorem sc_law : FnScope N_law ps_law (defScope (top 32)) := ⟨rfl, rfl, rfl, by decide +kernel, rfl, by decide +kernel, by decide +kernel⟩
theorem der_law {P : Program} {w : World} {K : PySem.W.Frag} {mg : Str → Option Value} {base : Heap} (g_len : mg "len" = none) (g_range : mg "range" = none) (G__law_cell : Good P w K mg base "_law_cell" ps__law_cell 1 sp__law_cell) (G__law_deeds : Good P w K mg base "_law_deeds" ps__law_deeds 3 sp__law_deeds) (G__law_is_all_marked : Good P w K mg base "_law_is_all_marked" ps__law_is_all_marked 5 sp__law_is_all_marked) (G__law_is_told : Good P w K mg base "_law_is_told" ps__law_is_told 6 sp__law_is_told) (G__law_mix : Good P w K mg base "_law_mix" ps__law_mix 1 sp__law_mix) (G_order : Good P w K mg base "order" ps_order 1 sp_order) (G_teller : Good P w K mg base "teller" ps_teller 3 sp_teller) (G_value : Good P w K mg base "value" ps_value 3 sp_value) (f : Addr) (cdv : Value) (A : Around) (outer : List Env) (s : Shared) (H : Hp) (E : XK)
    (hr : Room 6 (A.deeper (envOfC "law" (defScope (top 32)) s.heap.objs.size f cdv))) :
    DSs (cxOf CX0 P w K mg base N_law "law" (defScope (top 32)) f cdv A outer s H E).nox (Rg.top K w) (defBody (top 32)) t_law := by
  have S := sc_law
  exact (dss_cons (ds_for (vs := [1]) PassesOwn.never rfl (di_range1 rfl g_range (da_cons de_int da_nil)) (dg_name (pg_name (i := 1) S.nd rfl (by first | exact Or.inl rfl | exact Or.inr rfl)) (by decide) (by decide)) (dss_cons (ds_set (i := 2) S.nd rfl (by first | exact Or.inl rfl | exact Or.inr rfl) (de_op op_addD (de_callG G__law_cell hr rfl (da_cons (de_var (pv 0)) (da_cons (de_var (pv 1)) da_nil))) (de_op op_mulD de_int (de_var (pv 1)))))
    (dss_cons (ds_set (i := 3) S.nd rfl (by first | exact Or.inl rfl | exact Or.inr rfl) (de_callG G__law_deeds hr rfl (da_cons (de_var (pv 2)) (da_cons (de_op op_addD de_int (de_callG G__law_mix hr rfl (da_cons (de_var (pv 2)) (da_cons de_int (da_cons de_int da_nil))))) da_nil))))
    (dss_cons (ds_set (i := 4) S.nd rfl (by first | exact Or.inl rfl | exact Or.inr rfl) (de_callG G_order hr rfl (da_cons (de_var (pv 3)) da_nil)))
    (dss_cons (ds_set (i := 5) S.nd rfl (by first | exact Or.inl rfl | exact Or.inr rfl) (de_op op_addD (de_ix (ix_D hr.units) (de_ix (ix_D hr.units) (de_ix (ix_D hr.units) (de_var (pv 3)) (de_un op_negD de_int)) de_int) de_int) de_int))
    (dss_cons (ds_if (dt_not (dt_truth (de_callG G__law_is_all_marked hr rfl (da_cons (de_var (pv 3)) (da_cons (de_var (pv 4)) (da_cons (de_var (pv 5)) da_nil)))))) (dss_one (ds_ret de_bl)) dss_nil)
    (dss_cons (ds_set (i := 6) S.nd rfl (by first | exact Or.inl rfl | exact Or.inr rfl) (de_callG G__law_mix hr rfl (da_cons (de_op op_addD (de_callG G__law_cell hr rfl (da_cons (de_var (pv 0)) (da_cons de_int da_nil))) (de_var (pv 1))) (da_cons de_int (da_cons (de_callB call_lenD rfl g_len rfl (da_cons (de_var (pv 4)) da_nil)) da_nil)))))
    (dss_cons (ds_set (i := 7) S.nd rfl (by first | exact Or.inl rfl | exact Or.inr rfl) (de_ix (ix_D hr.units) (de_op op_addD (de_var (pv 4)) (de_tup (da_cons de_non da_nil))) (de_op op_addD (de_var (pv 6)) de_int)))
    (dss_cons (ds_set (i := 8) S.nd rfl (by first | exact Or.inl rfl | exact Or.inr rfl) (de_tup (da_cons de_str (da_cons (de_tup (da_cons (de_var (pv 5)) (da_cons de_str da_nil))) (da_cons de_str (da_cons (de_ix (ix_D hr.units) (de_var (pv 4)) (de_var (pv 6))) (da_cons (de_var (pv 7)) (da_cons de_bl da_nil))))))))
    (dss_cons (ds_set (i := 9) S.nd rfl (by first | exact Or.inl rfl | exact Or.inr rfl) (de_op op_addD (de_var (pv 3)) (de_tup (da_cons (de_var (pv 8)) (da_cons (de_tup (da_cons de_str (da_cons (de_tup (da_cons (de_var (pv 5)) (da_cons de_str da_nil))) (da_cons de_str (da_cons (de_ix (ix_D hr.units) (de_var (pv 4)) (de_var (pv 6))) (da_cons (de_ix (ix_D hr.units) (de_var (pv 4)) (de_var (pv 6))) (da_cons de_str da_nil))))))) da_nil)))))
    (dss_cons (ds_set (i := 10) S.nd rfl (by first | exact Or.inl rfl | exact Or.inr rfl) (de_tup (da_cons (de_op op_addD (de_var (pv 5)) de_int) (da_cons de_str da_nil))))
    (dss_cons (ds_set (i := 11) S.nd rfl (by first | exact Or.inl rfl | exact Or.inr rfl) (de_tup (da_cons de_str (da_cons (de_var (pv 10)) (da_cons (de_ix (ix_D hr.units) (de_var (pv 4)) (de_var (pv 6))) (da_cons de_str da_nil))))))
    (dss_cons (ds_set (i := 12) S.nd rfl (by first | exact Or.inl rfl | exact Or.inr rfl) (de_op op_addD (de_var (pv 9)) (de_tup (da_cons (de_var (pv 11)) da_nil))))
    (dss_cons (ds_if (dt_w (dw_or (dt_cmp op_isNotD (de_callG G_value hr rfl (da_cons (de_var (pv 12)) (da_cons (de_var (pv 10)) (da_cons de_str da_nil)))) de_bl (by rfl)) (dw_or1 (dt_cmp (op_neD hr.units) (de_callG G_teller hr rfl (da_cons (de_var (pv 12)) (da_cons (de_var (pv 10)) (da_cons de_str da_nil)))) (de_tup (da_cons (de_var (pv 5)) (da_cons de_str da_nil))) (by rfl))))) (dss_one (ds_ret de_bl)) dss_nil)
    (dss_cons (ds_if (dt_cmp (op_neD hr.units) (de_callG G_teller hr rfl (da_cons (de_var (pv 12)) (da_cons (de_ix (ix_D hr.units) (de_var (pv 4)) (de_var (pv 6))) (da_cons de_str da_nil)))) (de_tup (da_cons (de_var (pv 5)) (da_cons de_str da_nil))) (by rfl)) (dss_one (ds_ret de_bl)) dss_nil)
    (dss_one (ds_if (dt_w (dw_or (dt_cmp (op_neD hr.units) (de_callG G_value hr rfl (da_cons (de_var (pv 12)) (da_cons (de_var (pv 10)) (da_cons de_str da_nil)))) (de_callG G_value hr rfl (da_cons (de_op op_addD (de_var (pv 3)) (de_tup (da_cons (de_var (pv 11)) da_nil))) (da_cons (de_var (pv 10)) (da_cons de_str da_nil)))) (by rfl)) (dw_or1 (dt_not (dt_truth (de_callG G__law_is_told hr rfl (da_cons (de_var (pv 12)) da_nil))))))) (dss_one (ds_ret de_bl)) dss_nil)))))))))))))))))
    (dss_one (ds_ret de_bl)))
theorem bind_law (kV doc pm : Value) (an : Option Addr) (cdv ct : Value) (us : List Value) (hl : us.length = ps_law.length) : bindArgs (PySem.W.fnOf "law" "law" (defArgs (top 32)) (defBody (top 32)) (defScope (top 32)) .none kV doc pm an cdv ct) ⟨us, []⟩ = pure (ps_law.zip us) := match us, hl with | [_], _ => rfl
theorem pure_law (xs : List Int) : t_law { nx := fun _ _ => D.non = .bl true, rt := fun d' _ => d' = .bl true } (dstart N_law [.scr (xs.map .int)]) g0 := by
  simp only [t_law, N_law, set_app, drop_app, ret_app, asg_app, par_app, par3_app, put_app, next_app, cont_app, break_app, seq_set, seq_drop, seq_ret, seq_asg, seq_par, seq_par3, seq_put, seq_next, dOp, dUn, dVar, dC, dTup, dLst, dNil, dCons, dCall, dCB, dBM, isTy_str, dTB, dAndT, dOrT, dNotT, dAnd, dOr, dNot, dIf, dTru, truth, dChain, dSl, dPart, dNoPart,  dLc,  dRng1, dRng2,  dEnumT, dgName, dgTup, dgCons, dgNil, dDct0, dYes, dwipe, dstart, rAdd_int, rAdd_str, rAdd_tup, rSub_int, rMul_int, rMod_int, rFdiv_int, rNeg_int, rIs_non, rIsNot_non, rIs_bl, DD.isNonD, isi_tuple_non, isi_tuple_bl, isi_tuple_int, isi_tuple_str, isi_tuple_tup, isi_bool_non, isi_bool_bl, isi_bool_int, isi_bool_str, isi_bool_tup, isi_int_non, isi_int_bl, isi_int_int, isi_int_str, isi_int_tup, isi_str_non, isi_str_bl, isi_str_int, isi_str_str, isi_str_tup, isi_list_non, isi_list_bl, isi_list_int, isi_list_str, isi_list_tup, isi_is_int, isi_is_str, isi_is_non, isi_is_tup, rIx_str, rIx_tup, rIx_scr, rLen_str, rLen_tup, rLen_scr, rTuple_tup, rList_tup, rIn_s1, rIn_s2, rIn_s3, rMax2_int, rMin2_int, rInt1_int, rSl_str, rSl_tup, rev_app, revK_tup, seqX_app, seqK_tup, seqK_str, zip_app, zipK_tup, rLt_int, rLe_int, rGt_int, rGe_int, rLt_str, rLe_str, rGt_str, rGe_str, rOrd_encS, DD.rEq_int, DD.rEq_str, DD.rEq_bl, DD.rNe_int, DD.rNe_str, rEq_encS, rEq_encO, rEq_OS, atI_0, atI_1, atI_2, atI_3, atI_4, atI_5, atI_snoc, ob_some, gup_same, List.map_cons, List.map_nil, List.length_cons, List.length_nil, List.cons_append, List.nil_append, List.getElem?_cons_zero, List.getElem?_cons_succ, List.set_cons_zero, List.set_cons_succ, List.replicate_zero, List.replicate_succ, Nat.reduceSub, Nat.reduceAdd, if_true, if_false, Bool.false_eq_true, Bool.not_true, Bool.not_false, true_and, and_true]
  rw [seq_for]
  simp only [set_app, drop_app, ret_app, asg_app, par_app, par3_app, put_app, next_app, cont_app, break_app, seq_set, seq_drop, seq_ret, seq_asg, seq_par, seq_par3, seq_put, seq_next, dOp, dUn, dVar, dC, dTup, dLst, dNil, dCons, dCall, dCB, dBM, isTy_str, dTB, dAndT, dOrT, dNotT, dAnd, dOr, dNot, dIf, dTru, truth, dChain, dSl, dPart, dNoPart,  dLc,  dRng1, dRng2,  dEnumT, dgName, dgTup, dgCons, dgNil, dDct0, dYes, dwipe, dstart, rAdd_int, rAdd_str, rAdd_tup, rSub_int, rMul_int, rMod_int, rFdiv_int, rNeg_int, rIs_non, rIsNot_non, rIs_bl, DD.isNonD, isi_tuple_non, isi_tuple_bl, isi_tuple_int, isi_tuple_str, isi_tuple_tup, isi_bool_non, isi_bool_bl, isi_bool_int, isi_bool_str, isi_bool_tup, isi_int_non, isi_int_bl, isi_int_int, isi_int_str, isi_int_tup, isi_str_non, isi_str_bl, isi_str_int, isi_str_str, isi_str_tup, isi_list_non, isi_list_bl, isi_list_int, isi_list_str, isi_list_tup, isi_is_int, isi_is_str, isi_is_non, isi_is_tup, rIx_str, rIx_tup, rIx_scr, rLen_str, rLen_tup, rLen_scr, rTuple_tup, rList_tup, rIn_s1, rIn_s2, rIn_s3, rMax2_int, rMin2_int, rInt1_int, rSl_str, rSl_tup, rev_app, revK_tup, seqX_app, seqK_tup, seqK_str, zip_app, zipK_tup, rLt_int, rLe_int, rGt_int, rGe_int, rLt_str, rLe_str, rGt_str, rGe_str, rOrd_encS, DD.rEq_int, DD.rEq_str, DD.rEq_bl, DD.rNe_int, DD.rNe_str, rEq_encS, rEq_encO, rEq_OS, atI_0, atI_1, atI_2, atI_3, atI_4, atI_5, atI_snoc, ob_some, gup_same, List.map_cons, List.map_nil, List.length_cons, List.length_nil, List.cons_append, List.nil_append, List.getElem?_cons_zero, List.getElem?_cons_succ, List.set_cons_zero, List.set_cons_succ, List.replicate_zero, List.replicate_succ, Nat.reduceSub, Nat.reduceAdd, if_true, if_false, Bool.false_eq_true, Bool.not_true, Bool.not_false, true_and, and_true]
  refine ⟨⟨by decide, by decide⟩, ?_⟩
  refine forR_ind (n := 8) (fun i δ G => ∃ r1 r2 r3 r4 r5 r6 r7 r8 r9 r10 r11 r12, δ = [some (D.scr (xs.map .int)), r1, r2, r3, r4, r5, r6, r7, r8, r9, r10, r11, r12]) ?_ ?_ _ _ ⟨none, none, none, none, none, none, none, none, none, none, none, none, rfl⟩
  · rintro i F hi hF δ G ⟨r1, r2, r3, r4, r5, r6, r7, r8, r9, r10, r11, r12, rfl⟩
    simp only [set_app, drop_app, ret_app, asg_app, par_app, par3_app, put_app, next_app, cont_app, break_app, seq_set, seq_drop, seq_ret, seq_asg, seq_par, seq_par3, seq_put, seq_next, dOp, dUn, dVar, dC, dTup, dLst, dNil, dCons, dCall, dCB, dBM, isTy_str, dTB, dAndT, dOrT, dNotT, dAnd, dOr, dNot, dIf, dTru, truth, dChain, dSl, dPart, dNoPart,  dLc,  dRng1, dRng2,  dEnumT, dgName, dgTup, dgCons, dgNil, dDct0, dYes, dwipe, dstart, rAdd_int, rAdd_str, rAdd_tup, rSub_int, rMul_int, rMod_int, rFdiv_int, rNeg_int, rIs_non, rIsNot_non, rIs_bl, DD.isNonD, isi_tuple_non, isi_tuple_bl, isi_tuple_int, isi_tuple_str, isi_tuple_tup, isi_bool_non, isi_bool_bl, isi_bool_int, isi_bool_str, isi_bool_tup, isi_int_non, isi_int_bl, isi_int_int, isi_int_str, isi_int_tup, isi_str_non, isi_str_bl, isi_str_int, isi_str_str, isi_str_tup, isi_list_non, isi_list_bl, isi_list_int, isi_list_str, isi_list_tup, isi_is_int, isi_is_str, isi_is_non, isi_is_tup, rIx_str, rIx_tup, rIx_scr, rLen_str, rLen_tup, rLen_scr, rTuple_tup, rList_tup, rIn_s1, rIn_s2, rIn_s3, rMax2_int, rMin2_int, rInt1_int, rSl_str, rSl_tup, rev_app, revK_tup, seqX_app, seqK_tup, seqK_str, zip_app, zipK_tup, rLt_int, rLe_int, rGt_int, rGe_int, rLt_str, rLe_str, rGt_str, rGe_str, rOrd_encS, DD.rEq_int, DD.rEq_str, DD.rEq_bl, DD.rNe_int, DD.rNe_str, rEq_encS, rEq_encO, rEq_OS, atI_0, atI_1, atI_2, atI_3, atI_4, atI_5, atI_snoc, ob_some, gup_same, List.map_cons, List.map_nil, List.length_cons, List.length_nil, List.cons_append, List.nil_append, List.getElem?_cons_zero, List.getElem?_cons_succ, List.set_cons_zero, List.set_cons_succ, List.replicate_zero, List.replicate_succ, Nat.reduceSub, Nat.reduceAdd, if_true, if_false, Bool.false_eq_true, Bool.not_true, Bool.not_false, true_and, and_true]
    have e0 : (0 + (i : Int)) = ((i : Nat) : Int) := by omega
    rw [e0]
    refine cell_use fun c => ⟨.inl ⟨by omega, by omega⟩, ?_⟩
    refine mix_use ⟨by decide, by decide, by decide⟩ fun r hr0 hr1 => ?_
    rw [rAdd_int]
    obtain ⟨m, hm⟩ : ∃ m : Nat, 1 + r = m := ⟨(1 + r).toNat, by omega⟩
    rw [hm]
    refine deeds_use (by omega) fun L hW hL hN => ?_
    refine order_use hW (by omega) ?_
    have hLne : L ≠ [] := fun z => by rw [z] at hL; simp at hL; omega
    obtain ⟨L0, d, hLd⟩ : ∃ L0 d, L = L0 ++ [d] := by
      rcases List.eq_nil_or_concat L with q | ⟨a, x, q⟩
      · exact (hLne q).elim
      · exact ⟨a, x, by rw [q, List.concat_eq_append]⟩
    have H : ∀ e ∈ L, e.st.1 < d.st.1 + 1 := by rw [hLd]; exact num_last (by rw [← hLd]; exact hW.sorted)
    have il : atI (L.map M.encD) (-1) = some (M.encD d) := by rw [hLd, List.map_append]; exact DD.atI_snoc
    have hO := wf_ne hW hLne
    obtain ⟨q, eq, q1, q0⟩ := atI_at1 (d := d)
    rw [rIx_tup, il, ob_some, eq, rIx_tup, q1, ob_some, encS_ix0, rAdd_int]
    generalize d.st.1 + 1 = n at H
    rw [seq_if]
    simp only [set_app, drop_app, ret_app, asg_app, par_app, par3_app, put_app, next_app, cont_app, break_app, seq_set, seq_drop, seq_ret, seq_asg, seq_par, seq_par3, seq_put, seq_next, dOp, dUn, dVar, dC, dTup, dLst, dNil, dCons, dCall, dCB, dBM, isTy_str, dTB, dAndT, dOrT, dNotT, dAnd, dOr, dNot, dIf, dTru, truth, dChain, dSl, dPart, dNoPart,  dLc,  dRng1, dRng2,  dEnumT, dgName, dgTup, dgCons, dgNil, dDct0, dYes, dwipe, dstart, rAdd_int, rAdd_str, rAdd_tup, rSub_int, rMul_int, rMod_int, rFdiv_int, rNeg_int, rIs_non, rIsNot_non, rIs_bl, DD.isNonD, isi_tuple_non, isi_tuple_bl, isi_tuple_int, isi_tuple_str, isi_tuple_tup, isi_bool_non, isi_bool_bl, isi_bool_int, isi_bool_str, isi_bool_tup, isi_int_non, isi_int_bl, isi_int_int, isi_int_str, isi_int_tup, isi_str_non, isi_str_bl, isi_str_int, isi_str_str, isi_str_tup, isi_list_non, isi_list_bl, isi_list_int, isi_list_str, isi_list_tup, isi_is_int, isi_is_str, isi_is_non, isi_is_tup, rIx_str, rIx_tup, rIx_scr, rLen_str, rLen_tup, rLen_scr, rTuple_tup, rList_tup, rIn_s1, rIn_s2, rIn_s3, rMax2_int, rMin2_int, rInt1_int, rSl_str, rSl_tup, rev_app, revK_tup, seqX_app, seqK_tup, seqK_str, zip_app, zipK_tup, rLt_int, rLe_int, rGt_int, rGe_int, rLt_str, rLe_str, rGt_str, rGe_str, rOrd_encS, DD.rEq_int, DD.rEq_str, DD.rEq_bl, DD.rNe_int, DD.rNe_str, rEq_encS, rEq_encO, rEq_OS, atI_0, atI_1, atI_2, atI_3, atI_4, atI_5, atI_snoc, ob_some, gup_same, List.map_cons, List.map_nil, List.length_cons, List.length_nil, List.cons_append, List.nil_append, List.getElem?_cons_zero, List.getElem?_cons_succ, List.set_cons_zero, List.set_cons_succ, List.replicate_zero, List.replicate_succ, Nat.reduceSub, Nat.reduceAdd, if_true, if_false, Bool.false_eq_true, Bool.not_true, Bool.not_false, true_and, and_true]
    refine am_use hW (by omega) H hO ?_
    simp only [set_app, drop_app, ret_app, asg_app, par_app, par3_app, put_app, next_app, cont_app, break_app, seq_set, seq_drop, seq_ret, seq_asg, seq_par, seq_par3, seq_put, seq_next, dOp, dUn, dVar, dC, dTup, dLst, dNil, dCons, dCall, dCB, dBM, isTy_str, dTB, dAndT, dOrT, dNotT, dAnd, dOr, dNot, dIf, dTru, truth, dChain, dSl, dPart, dNoPart,  dLc,  dRng1, dRng2,  dEnumT, dgName, dgTup, dgCons, dgNil, dDct0, dYes, dwipe, dstart, rAdd_int, rAdd_str, rAdd_tup, rSub_int, rMul_int, rMod_int, rFdiv_int, rNeg_int, rIs_non, rIsNot_non, rIs_bl, DD.isNonD, isi_tuple_non, isi_tuple_bl, isi_tuple_int, isi_tuple_str, isi_tuple_tup, isi_bool_non, isi_bool_bl, isi_bool_int, isi_bool_str, isi_bool_tup, isi_int_non, isi_int_bl, isi_int_int, isi_int_str, isi_int_tup, isi_str_non, isi_str_bl, isi_str_int, isi_str_str, isi_str_tup, isi_list_non, isi_list_bl, isi_list_int, isi_list_str, isi_list_tup, isi_is_int, isi_is_str, isi_is_non, isi_is_tup, rIx_str, rIx_tup, rIx_scr, rLen_str, rLen_tup, rLen_scr, rTuple_tup, rList_tup, rIn_s1, rIn_s2, rIn_s3, rMax2_int, rMin2_int, rInt1_int, rSl_str, rSl_tup, rev_app, revK_tup, seqX_app, seqK_tup, seqK_str, zip_app, zipK_tup, rLt_int, rLe_int, rGt_int, rGe_int, rLt_str, rLe_str, rGt_str, rGe_str, rOrd_encS, DD.rEq_int, DD.rEq_str, DD.rEq_bl, DD.rNe_int, DD.rNe_str, rEq_encS, rEq_encO, rEq_OS, atI_0, atI_1, atI_2, atI_3, atI_4, atI_5, atI_snoc, ob_some, gup_same, List.map_cons, List.map_nil, List.length_cons, List.length_nil, List.cons_append, List.nil_append, List.getElem?_cons_zero, List.getElem?_cons_succ, List.set_cons_zero, List.set_cons_succ, List.replicate_zero, List.replicate_succ, Nat.reduceSub, Nat.reduceAdd, if_true, if_false, Bool.false_eq_true, Bool.not_true, Bool.not_false, true_and, and_true]
    refine cell_use (k := 8) fun c2 => ?_
    have hpos : 0 < (ordI L).length := by cases q2 : ordI L with
      | nil => exact (hO q2).elim
      | cons x l => exact Nat.succ_pos _
    refine mix_use ⟨by decide, by decide, by rw [List.length_map]; omega⟩ fun a ha0 ha1 => ?_
    rw [List.length_map] at ha1
    obtain ⟨at_, rfl⟩ : ∃ at_ : Nat, a = at_ := ⟨a.toNat, by omega⟩
    have hat : at_ < (ordI L).length := by omega
    obtain ⟨r, hr⟩ : ∃ r, (ordI L)[at_]? = some r := ⟨_, List.getElem?_eq_getElem hat⟩
    have ho : ordI L = (ordI L).take at_ ++ r :: (ordI L).drop (at_ + 1) := by
      have h1 := List.drop_eq_getElem_cons hat
      have h2 : (ordI L)[at_] = r := by rw [List.getElem?_eq_getElem hat] at hr; exact Option.some.inj hr
      rw [← h2, ← h1, List.take_append_drop]
    have hrl : r ∈ lets L := (ordI_ok hW).2.1 r (List.mem_of_getElem? hr)
    have hel : ∀ s, ((ordI L).drop (at_ + 1)).head? = some s → s ∈ lets L := fun s hs => by
      rw [List.head?_drop] at hs
      exact (ordI_ok hW).2.1 s (List.mem_of_getElem? hs)
    have ir : atI ((ordI L).map encS) (at_ : Int) = some (encS r) := DD.atI_nat (by rw [List.getElem?_map, hr]; rfl)
    have ie : atI ((ordI L).map encS ++ [D.non]) ((at_ : Int) + 1) = some (encO ((ordI L).drop (at_ + 1)).head?) := by
      have e1 : (at_ : Int) + 1 = ((at_ + 1 : Nat) : Int) := by omega
      rw [e1]
      refine DD.atI_nat ?_
      rw [List.head?_drop]
      by_cases z : at_ + 1 < (ordI L).length
      · rw [List.getElem?_append_left (by rw [List.length_map]; exact z), List.getElem?_map, List.getElem?_eq_getElem z]
        rfl
      · have z2 : at_ + 1 = ((ordI L).map encS).length := by rw [List.length_map]; omega
        have z3 : (ordI L)[at_ + 1]? = none := List.getElem?_eq_none (by omega)
        rw [z3, z2, List.getElem?_append_right (Nat.le_refl _), Nat.sub_self]
        rfl
    refine ⟨by rw [List.length_map]; have := (ordI_ok hW).2.2; omega, ?_⟩
    rw [rAdd_int, rIx_tup, ie, ob_some, rIx_tup, ir, ob_some, rIx_tup, ir, ob_some, rIx_tup, ir, ob_some]
    refine ⟨by rw [List.length_map]; omega, ?_⟩
    rw [rIx_tup, ir, ob_some]
    have hWM : Wf (moreD L n r ((ordI L).drop (at_ + 1)).head?) := wf_more hW H hrl hel
    have hWX : Wf (L ++ [wx n r]) := wf_wx hW H hrl
    have lenM : (moreD L n r ((ordI L).drop (at_ + 1)).head?).length ≤ 1000 := by unfold moreD; rw [List.length_append]; show _ + 3 ≤ _; omega
    have lenX : (L ++ [wx n r]).length ≤ 1000 := by rw [List.length_append]; show _ + 1 ≤ _; omega
    have tB := more_bold hW H ho
    have tL := more_link (e := ((ordI L).drop (at_ + 1)).head?) hW H ho
    have tN := more_not (e := ((ordI L).drop (at_ + 1)).head?) hW H ho
    have nM : ((n + 1, "c") : Stp) ∈ lets (moreD L n r ((ordI L).drop (at_ + 1)).head?) := by
      unfold lets moreD
      rw [List.filterMap_append]
      exact List.mem_append_right _ List.mem_cons_self
    have nX : ((n + 1, "c") : Stp) ∈ lets (L ++ [wx n r]) := by
      unfold lets
      rw [List.filterMap_append]
      exact List.mem_append_right _ List.mem_cons_self
    have rM : r ∈ lets (moreD L n r ((ordI L).drop (at_ + 1)).head?) := by
      unfold lets moreD
      rw [List.filterMap_append]
      exact List.mem_append_left _ hrl
    generalize ((ordI L).drop (at_ + 1)).head? = nx at *
    have ex : D.str (Str.ofString "x") = D.str ⟨#[120]⟩ := congrArg D.str (by decide +kernel)
    have eM : L.map M.encD ++ [D.tup [D.str (Str.ofString "mark"), D.tup [D.int n, D.str (Str.ofString "m")], D.str (Str.ofString "bold"), encS r, encO nx, D.bl true], D.tup [D.str (Str.ofString "mark"), D.tup [D.int n, D.str (Str.ofString "n")], D.str (Str.ofString "link"), encS r, encS r, D.str (Str.ofString "q")]] ++ [D.tup [D.str (Str.ofString "write"), D.tup [D.int (n + 1), D.str (Str.ofString "c")], encS r, D.str (Str.ofString "x")]] = (moreD L n r nx).map M.encD := by
      unfold moreD
      rw [ex, List.map_append, List.append_assoc]
      rfl
    have eX : L.map M.encD ++ [D.tup [D.str (Str.ofString "write"), D.tup [D.int (n + 1), D.str (Str.ofString "c")], encS r, D.str (Str.ofString "x")]] = (L ++ [wx n r]).map M.encD := by
      rw [ex, List.map_append]
      rfl
    rw [eM]
    refine ⟨by rw [List.length_append, List.length_map]; show _ + 2 + 1 ≤ _; omega, ?_⟩
    rw [seq_if]
    simp only [set_app, drop_app, ret_app, asg_app, par_app, par3_app, put_app, next_app, cont_app, break_app, seq_set, seq_drop, seq_ret, seq_asg, seq_par, seq_par3, seq_put, seq_next, dOp, dUn, dVar, dC, dTup, dLst, dNil, dCons, dCall, dCB, dBM, isTy_str, dTB, dAndT, dOrT, dNotT, dAnd, dOr, dNot, dIf, dTru, truth, dChain, dSl, dPart, dNoPart,  dLc,  dRng1, dRng2,  dEnumT, dgName, dgTup, dgCons, dgNil, dDct0, dYes, dwipe, dstart, rAdd_int, rAdd_str, rAdd_tup, rSub_int, rMul_int, rMod_int, rFdiv_int, rNeg_int, rIs_non, rIsNot_non, rIs_bl, DD.isNonD, isi_tuple_non, isi_tuple_bl, isi_tuple_int, isi_tuple_str, isi_tuple_tup, isi_bool_non, isi_bool_bl, isi_bool_int, isi_bool_str, isi_bool_tup, isi_int_non, isi_int_bl, isi_int_int, isi_int_str, isi_int_tup, isi_str_non, isi_str_bl, isi_str_int, isi_str_str, isi_str_tup, isi_list_non, isi_list_bl, isi_list_int, isi_list_str, isi_list_tup, isi_is_int, isi_is_str, isi_is_non, isi_is_tup, rIx_str, rIx_tup, rIx_scr, rLen_str, rLen_tup, rLen_scr, rTuple_tup, rList_tup, rIn_s1, rIn_s2, rIn_s3, rMax2_int, rMin2_int, rInt1_int, rSl_str, rSl_tup, rev_app, revK_tup, seqX_app, seqK_tup, seqK_str, zip_app, zipK_tup, rLt_int, rLe_int, rGt_int, rGe_int, rLt_str, rLe_str, rGt_str, rGe_str, rOrd_encS, DD.rEq_int, DD.rEq_str, DD.rEq_bl, DD.rNe_int, DD.rNe_str, rEq_encS, rEq_encO, rEq_OS, atI_0, atI_1, atI_2, atI_3, atI_4, atI_5, atI_snoc, ob_some, gup_same, List.map_cons, List.map_nil, List.length_cons, List.length_nil, List.cons_append, List.nil_append, List.getElem?_cons_zero, List.getElem?_cons_succ, List.set_cons_zero, List.set_cons_succ, List.replicate_zero, List.replicate_succ, Nat.reduceSub, Nat.reduceAdd, if_true, if_false, Bool.false_eq_true, Bool.not_true, Bool.not_false, true_and, and_true]
    refine value_use2 (s := (n + 1, "c")) (b := true) hWM lenM nM ?_
    rw [vals_enc, tB]
    show DD.rIsNot (.bl true) (.bl true) _ _
    rw [rIsNot_bl]
    have e6 : (!(true == true)) = false := rfl
    rw [e6]
    simp only [Bool.false_eq_true, if_false]
    refine teller_use (s := (n + 1, "c")) (b := true) hWM lenM nM ?_
    rw [tolds_enc]
    unfold toldO
    rw [tB]
    show DD.rNe (encS (n, "m")) (encS (n, "m")) _ _
    rw [rNe_flat rfl rfl (.inl (by rw [dp_encS]; decide)), eqD_self']
    simp only [Bool.not_true, Bool.false_eq_true, if_false]
    rw [seq_if]
    simp only [set_app, drop_app, ret_app, asg_app, par_app, par3_app, put_app, next_app, cont_app, break_app, seq_set, seq_drop, seq_ret, seq_asg, seq_par, seq_par3, seq_put, seq_next, dOp, dUn, dVar, dC, dTup, dLst, dNil, dCons, dCall, dCB, dBM, isTy_str, dTB, dAndT, dOrT, dNotT, dAnd, dOr, dNot, dIf, dTru, truth, dChain, dSl, dPart, dNoPart,  dLc,  dRng1, dRng2,  dEnumT, dgName, dgTup, dgCons, dgNil, dDct0, dYes, dwipe, dstart, rAdd_int, rAdd_str, rAdd_tup, rSub_int, rMul_int, rMod_int, rFdiv_int, rNeg_int, rIs_non, rIsNot_non, rIs_bl, DD.isNonD, isi_tuple_non, isi_tuple_bl, isi_tuple_int, isi_tuple_str, isi_tuple_tup, isi_bool_non, isi_bool_bl, isi_bool_int, isi_bool_str, isi_bool_tup, isi_int_non, isi_int_bl, isi_int_int, isi_int_str, isi_int_tup, isi_str_non, isi_str_bl, isi_str_int, isi_str_str, isi_str_tup, isi_list_non, isi_list_bl, isi_list_int, isi_list_str, isi_list_tup, isi_is_int, isi_is_str, isi_is_non, isi_is_tup, rIx_str, rIx_tup, rIx_scr, rLen_str, rLen_tup, rLen_scr, rTuple_tup, rList_tup, rIn_s1, rIn_s2, rIn_s3, rMax2_int, rMin2_int, rInt1_int, rSl_str, rSl_tup, rev_app, revK_tup, seqX_app, seqK_tup, seqK_str, zip_app, zipK_tup, rLt_int, rLe_int, rGt_int, rGe_int, rLt_str, rLe_str, rGt_str, rGe_str, rOrd_encS, DD.rEq_int, DD.rEq_str, DD.rEq_bl, DD.rNe_int, DD.rNe_str, rEq_encS, rEq_encO, rEq_OS, atI_0, atI_1, atI_2, atI_3, atI_4, atI_5, atI_snoc, ob_some, gup_same, List.map_cons, List.map_nil, List.length_cons, List.length_nil, List.cons_append, List.nil_append, List.getElem?_cons_zero, List.getElem?_cons_succ, List.set_cons_zero, List.set_cons_succ, List.replicate_zero, List.replicate_succ, Nat.reduceSub, Nat.reduceAdd, if_true, if_false, Bool.false_eq_true, Bool.not_true, Bool.not_false, true_and, and_true]
    rw [ir, ob_some]
    refine teller_use (b := false) hWM lenM rM ?_
    rw [tolds_enc]
    unfold toldO
    rw [tL]
    show DD.rNe (encS (n, "n")) (encS (n, "n")) _ _
    rw [rNe_flat rfl rfl (.inl (by rw [dp_encS]; decide)), eqD_self']
    simp only [Bool.not_true, Bool.false_eq_true, if_false]
    rw [if_app]
    simp only [set_app, drop_app, ret_app, asg_app, par_app, par3_app, put_app, next_app, cont_app, break_app, seq_set, seq_drop, seq_ret, seq_asg, seq_par, seq_par3, seq_put, seq_next, dOp, dUn, dVar, dC, dTup, dLst, dNil, dCons, dCall, dCB, dBM, isTy_str, dTB, dAndT, dOrT, dNotT, dAnd, dOr, dNot, dIf, dTru, truth, dChain, dSl, dPart, dNoPart,  dLc,  dRng1, dRng2,  dEnumT, dgName, dgTup, dgCons, dgNil, dDct0, dYes, dwipe, dstart, rAdd_int, rAdd_str, rAdd_tup, rSub_int, rMul_int, rMod_int, rFdiv_int, rNeg_int, rIs_non, rIsNot_non, rIs_bl, DD.isNonD, isi_tuple_non, isi_tuple_bl, isi_tuple_int, isi_tuple_str, isi_tuple_tup, isi_bool_non, isi_bool_bl, isi_bool_int, isi_bool_str, isi_bool_tup, isi_int_non, isi_int_bl, isi_int_int, isi_int_str, isi_int_tup, isi_str_non, isi_str_bl, isi_str_int, isi_str_str, isi_str_tup, isi_list_non, isi_list_bl, isi_list_int, isi_list_str, isi_list_tup, isi_is_int, isi_is_str, isi_is_non, isi_is_tup, rIx_str, rIx_tup, rIx_scr, rLen_str, rLen_tup, rLen_scr, rTuple_tup, rList_tup, rIn_s1, rIn_s2, rIn_s3, rMax2_int, rMin2_int, rInt1_int, rSl_str, rSl_tup, rev_app, revK_tup, seqX_app, seqK_tup, seqK_str, zip_app, zipK_tup, rLt_int, rLe_int, rGt_int, rGe_int, rLt_str, rLe_str, rGt_str, rGe_str, rOrd_encS, DD.rEq_int, DD.rEq_str, DD.rEq_bl, DD.rNe_int, DD.rNe_str, rEq_encS, rEq_encO, rEq_OS, atI_0, atI_1, atI_2, atI_3, atI_4, atI_5, atI_snoc, ob_some, gup_same, List.map_cons, List.map_nil, List.length_cons, List.length_nil, List.cons_append, List.nil_append, List.getElem?_cons_zero, List.getElem?_cons_succ, List.set_cons_zero, List.set_cons_succ, List.replicate_zero, List.replicate_succ, Nat.reduceSub, Nat.reduceAdd, if_true, if_false, Bool.false_eq_true, Bool.not_true, Bool.not_false, true_and, and_true]
    refine value_use2 (s := (n + 1, "c")) (b := false) hWM lenM nM ?_
    rw [eX]
    refine ⟨by rw [List.length_map]; omega, ?_⟩
    refine value_use2 (s := (n + 1, "c")) (b := false) hWX lenX nX ?_
    rw [vals_enc, vals_enc, tN, rNe_flat (flat_encV _) (flat_encV _) (.inl (by rw [dp_encV]; decide)), eqD_self']
    simp only [Bool.not_true, Bool.false_eq_true, if_false]
    refine told_use2 hWM lenM ?_
    simp only [set_app, drop_app, ret_app, asg_app, par_app, par3_app, put_app, next_app, cont_app, break_app, seq_set, seq_drop, seq_ret, seq_asg, seq_par, seq_par3, seq_put, seq_next, dOp, dUn, dVar, dC, dTup, dLst, dNil, dCons, dCall, dCB, dBM, isTy_str, dTB, dAndT, dOrT, dNotT, dAnd, dOr, dNot, dIf, dTru, truth, dChain, dSl, dPart, dNoPart,  dLc,  dRng1, dRng2,  dEnumT, dgName, dgTup, dgCons, dgNil, dDct0, dYes, dwipe, dstart, rAdd_int, rAdd_str, rAdd_tup, rSub_int, rMul_int, rMod_int, rFdiv_int, rNeg_int, rIs_non, rIsNot_non, rIs_bl, DD.isNonD, isi_tuple_non, isi_tuple_bl, isi_tuple_int, isi_tuple_str, isi_tuple_tup, isi_bool_non, isi_bool_bl, isi_bool_int, isi_bool_str, isi_bool_tup, isi_int_non, isi_int_bl, isi_int_int, isi_int_str, isi_int_tup, isi_str_non, isi_str_bl, isi_str_int, isi_str_str, isi_str_tup, isi_list_non, isi_list_bl, isi_list_int, isi_list_str, isi_list_tup, isi_is_int, isi_is_str, isi_is_non, isi_is_tup, rIx_str, rIx_tup, rIx_scr, rLen_str, rLen_tup, rLen_scr, rTuple_tup, rList_tup, rIn_s1, rIn_s2, rIn_s3, rMax2_int, rMin2_int, rInt1_int, rSl_str, rSl_tup, rev_app, revK_tup, seqX_app, seqK_tup, seqK_str, zip_app, zipK_tup, rLt_int, rLe_int, rGt_int, rGe_int, rLt_str, rLe_str, rGt_str, rGe_str, rOrd_encS, DD.rEq_int, DD.rEq_str, DD.rEq_bl, DD.rNe_int, DD.rNe_str, rEq_encS, rEq_encO, rEq_OS, atI_0, atI_1, atI_2, atI_3, atI_4, atI_5, atI_snoc, ob_some, gup_same, List.map_cons, List.map_nil, List.length_cons, List.length_nil, List.cons_append, List.nil_append, List.getElem?_cons_zero, List.getElem?_cons_succ, List.set_cons_zero, List.set_cons_succ, List.replicate_zero, List.replicate_succ, Nat.reduceSub, Nat.reduceAdd, if_true, if_false, Bool.false_eq_true, Bool.not_true, Bool.not_false, true_and, and_true]
    exact hF _ _ ⟨_, _, _, _, _, _, _, _, _, _, _, _, rfl⟩
  · rintro δ G ⟨r1, r2, r3, r4, r5, r6, r7, r8, r9, r10, r11, r12, rfl⟩
    rfl
end K

namespace K
open PySem PySem.Spec PyProof.Rows L2 DD M
/-! ### the head: facts by names, the run -/
def mkD (i : Nat) (n : Str) : He.DefD := ⟨(n, none), n, n, defArgs (top i), defBody (top i), defScope (top i), [], []⟩
def fn : List He.DefD := [mkD 2 "order", mkD 3 "counts", mkD 4 "is_shown", mkD 5 "shown", mkD 8 "letters_of", mkD 9 "text", mkD 10 "is_covered", mkD 11 "places_of", mkD 12 "covers", mkD 13 "marks_of", mkD 14 "first_telling", mkD 15 "counting_marks", mkD 16 "teller", mkD 17 "value", mkD 18 "spans", mkD 20 "later_marks", mkD 21 "paper", mkD 22 "is_row", mkD 23 "is_paper", mkD 25 "_law_cell", mkD 26 "_law_mix", mkD 27 "_law_letter", mkD 28 "_law_value", mkD 29 "_law_deeds", mkD 30 "_law_is_all_marked", mkD 31 "_law_is_told", mkD 32 "law"]
def fa : List He.Fa := [.glo "order", .glo "counts", .glo "is_shown", .glo "shown", .glo "letters_of", .glo "text", .glo "is_covered", .glo "places_of", .glo "covers", .glo "marks_of", .glo "first_telling", .glo "counting_marks", .glo "teller", .glo "value", .glo "spans", .glo "later_marks", .glo "paper", .glo "is_row", .glo "is_paper", .glo "_law_cell", .glo "_law_mix", .glo "_law_letter", .glo "_law_value", .glo "_law_deeds", .glo "_law_is_all_marked", .glo "_law_is_told", .glo "law", .free "all", .free "any", .free "dict", .free "enumerate", .free "isinstance", .free "len", .free "max", .free "range", .free "sorted", .free "tuple", .free "zip", .glo "BARE", .glo "KINDS"]
def ts : List He.Tab := [(fun K => He.ga K "BARE", ["bold", "link"])]
def tf : List He.Defn := []
def ex (K : PySem.W.Frag) : Bool := ((He.valsB K (He.ga K "BARE") [("bold", .bl false), ("link", .non)]) && ((DD.tupB K "KINDS" [.str "bold", .str "link"]) && true))
abbrev R : PySem.W.OpenRow := PySem.W.OpenLaw.row PySem.Challenge.rw_handmarks_k05_whole_told
abbrev hk : PySem.W.Hook := He.hookX 5 fa fn ts tf ex
def ob (s : PySem.W.SharedT) : He.AlX := He.obsX 5 fa fn ts tf ex (HandSHeadRun.getT s)
theorem ob_eq (s : PySem.W.SharedT) : ob s = hk.obs s.abs := He.obsX_eq (HandSHeadRun.getT_eq s)
def loose : List PySem.Str := ["KINDS", "order", "counts", "is_shown", "shown", "BARE", "letters_of", "text", "is_covered", "places_of", "covers", "marks_of", "first_telling", "counting_marks", "teller", "value", "spans", "later_marks", "paper", "is_row", "is_paper", "_law_cell", "_law_mix", "_law_letter", "_law_value", "_law_deeds", "_law_is_all_marked", "_law_is_told"]
theorem run (w : World) : HandSHeadRun.RunEq R (PySem.W.view R.prog [32]) hk ob 4000 loose w := by
  refine PySem.W.byRow2 "special-get-raises" (P := fun w => HandSHeadRun.RunEq R (PySem.W.view R.prog [32]) hk ob 4000 loose w) (fun w => ?_) (fun w => ?_) w
  all_goals
    intro os
    kernel_rfl
theorem facts {P : Program} {w : World} {K : PySem.W.Frag} {h : Heap} {mg : Str → Option Value} {f : Addr} (X : K.In h) (G : h.Ns mainGlobals mg) (hfa : mg ("law" : Str) = some (.ref f)) (c0 : He.SaysX fa fn ts tf ex w h K) :
    ∃ fd : FuncData, (∀ (s : Shared) (v : Value), BindsTo s fd ⟨[v], []⟩ [("_law_script", v)]) ∧ ∀ base : Heap, K.In base → base.Ns mainGlobals mg → FnOk P w K mg base CX0 7 f fd ps_law (lsp K w DD.spLaw) := by
  have c := c0.t.d
  obtain ⟨fd_order, F_order⟩ := c.def_ 0 (d := mkD 2 "order") rfl
  have D_order : DefAt K mg "order" (top 2) := ⟨_, fd_order, He.glo_ok X G (c.fact 0 (f := .glo "order") rfl), F_order⟩
  obtain ⟨fd_counts, F_counts⟩ := c.def_ 1 (d := mkD 3 "counts") rfl
  have D_counts : DefAt K mg "counts" (top 3) := ⟨_, fd_counts, He.glo_ok X G (c.fact 1 (f := .glo "counts") rfl), F_counts⟩
  obtain ⟨fd_is_shown, F_is_shown⟩ := c.def_ 2 (d := mkD 4 "is_shown") rfl
  have D_is_shown : DefAt K mg "is_shown" (top 4) := ⟨_, fd_is_shown, He.glo_ok X G (c.fact 2 (f := .glo "is_shown") rfl), F_is_shown⟩
  obtain ⟨fd_shown, F_shown⟩ := c.def_ 3 (d := mkD 5 "shown") rfl
  have D_shown : DefAt K mg "shown" (top 5) := ⟨_, fd_shown, He.glo_ok X G (c.fact 3 (f := .glo "shown") rfl), F_shown⟩
  obtain ⟨fd_letters_of, F_letters_of⟩ := c.def_ 4 (d := mkD 8 "letters_of") rfl
  have D_letters_of : DefAt K mg "letters_of" (top 8) := ⟨_, fd_letters_of, He.glo_ok X G (c.fact 4 (f := .glo "letters_of") rfl), F_letters_of⟩
  obtain ⟨fd_text, F_text⟩ := c.def_ 5 (d := mkD 9 "text") rfl
  have D_text : DefAt K mg "text" (top 9) := ⟨_, fd_text, He.glo_ok X G (c.fact 5 (f := .glo "text") rfl), F_text⟩
  obtain ⟨fd_is_covered, F_is_covered⟩ := c.def_ 6 (d := mkD 10 "is_covered") rfl
  have D_is_covered : DefAt K mg "is_covered" (top 10) := ⟨_, fd_is_covered, He.glo_ok X G (c.fact 6 (f := .glo "is_covered") rfl), F_is_covered⟩
  obtain ⟨fd_places_of, F_places_of⟩ := c.def_ 7 (d := mkD 11 "places_of") rfl
  have D_places_of : DefAt K mg "places_of" (top 11) := ⟨_, fd_places_of, He.glo_ok X G (c.fact 7 (f := .glo "places_of") rfl), F_places_of⟩
  obtain ⟨fd_covers, F_covers⟩ := c.def_ 8 (d := mkD 12 "covers") rfl
  have D_covers : DefAt K mg "covers" (top 12) := ⟨_, fd_covers, He.glo_ok X G (c.fact 8 (f := .glo "covers") rfl), F_covers⟩
  obtain ⟨fd_marks_of, F_marks_of⟩ := c.def_ 9 (d := mkD 13 "marks_of") rfl
  have D_marks_of : DefAt K mg "marks_of" (top 13) := ⟨_, fd_marks_of, He.glo_ok X G (c.fact 9 (f := .glo "marks_of") rfl), F_marks_of⟩
  obtain ⟨fd_first_telling, F_first_telling⟩ := c.def_ 10 (d := mkD 14 "first_telling") rfl
  have D_first_telling : DefAt K mg "first_telling" (top 14) := ⟨_, fd_first_telling, He.glo_ok X G (c.fact 10 (f := .glo "first_telling") rfl), F_first_telling⟩
  obtain ⟨fd_counting_marks, F_counting_marks⟩ := c.def_ 11 (d := mkD 15 "counting_marks") rfl
  have D_counting_marks : DefAt K mg "counting_marks" (top 15) := ⟨_, fd_counting_marks, He.glo_ok X G (c.fact 11 (f := .glo "counting_marks") rfl), F_counting_marks⟩
  obtain ⟨fd_teller, F_teller⟩ := c.def_ 12 (d := mkD 16 "teller") rfl
  have D_teller : DefAt K mg "teller" (top 16) := ⟨_, fd_teller, He.glo_ok X G (c.fact 12 (f := .glo "teller") rfl), F_teller⟩
  obtain ⟨fd_value, F_value⟩ := c.def_ 13 (d := mkD 17 "value") rfl
  have D_value : DefAt K mg "value" (top 17) := ⟨_, fd_value, He.glo_ok X G (c.fact 13 (f := .glo "value") rfl), F_value⟩
  obtain ⟨fd_spans, F_spans⟩ := c.def_ 14 (d := mkD 18 "spans") rfl
  have D_spans : DefAt K mg "spans" (top 18) := ⟨_, fd_spans, He.glo_ok X G (c.fact 14 (f := .glo "spans") rfl), F_spans⟩
  obtain ⟨fd_later_marks, F_later_marks⟩ := c.def_ 15 (d := mkD 20 "later_marks") rfl
  have D_later_marks : DefAt K mg "later_marks" (top 20) := ⟨_, fd_later_marks, He.glo_ok X G (c.fact 15 (f := .glo "later_marks") rfl), F_later_marks⟩
  obtain ⟨fd_paper, F_paper⟩ := c.def_ 16 (d := mkD 21 "paper") rfl
  have D_paper : DefAt K mg "paper" (top 21) := ⟨_, fd_paper, He.glo_ok X G (c.fact 16 (f := .glo "paper") rfl), F_paper⟩
  obtain ⟨fd_is_row, F_is_row⟩ := c.def_ 17 (d := mkD 22 "is_row") rfl
  have D_is_row : DefAt K mg "is_row" (top 22) := ⟨_, fd_is_row, He.glo_ok X G (c.fact 17 (f := .glo "is_row") rfl), F_is_row⟩
  obtain ⟨fd_is_paper, F_is_paper⟩ := c.def_ 18 (d := mkD 23 "is_paper") rfl
  have D_is_paper : DefAt K mg "is_paper" (top 23) := ⟨_, fd_is_paper, He.glo_ok X G (c.fact 18 (f := .glo "is_paper") rfl), F_is_paper⟩
  obtain ⟨fd__law_cell, F__law_cell⟩ := c.def_ 19 (d := mkD 25 "_law_cell") rfl
  have D__law_cell : DefAt K mg "_law_cell" (top 25) := ⟨_, fd__law_cell, He.glo_ok X G (c.fact 19 (f := .glo "_law_cell") rfl), F__law_cell⟩
  obtain ⟨fd__law_mix, F__law_mix⟩ := c.def_ 20 (d := mkD 26 "_law_mix") rfl
  have D__law_mix : DefAt K mg "_law_mix" (top 26) := ⟨_, fd__law_mix, He.glo_ok X G (c.fact 20 (f := .glo "_law_mix") rfl), F__law_mix⟩
  obtain ⟨fd__law_letter, F__law_letter⟩ := c.def_ 21 (d := mkD 27 "_law_letter") rfl
  have D__law_letter : DefAt K mg "_law_letter" (top 27) := ⟨_, fd__law_letter, He.glo_ok X G (c.fact 21 (f := .glo "_law_letter") rfl), F__law_letter⟩
  obtain ⟨fd__law_value, F__law_value⟩ := c.def_ 22 (d := mkD 28 "_law_value") rfl
  have D__law_value : DefAt K mg "_law_value" (top 28) := ⟨_, fd__law_value, He.glo_ok X G (c.fact 22 (f := .glo "_law_value") rfl), F__law_value⟩
  obtain ⟨fd__law_deeds, F__law_deeds⟩ := c.def_ 23 (d := mkD 29 "_law_deeds") rfl
  have D__law_deeds : DefAt K mg "_law_deeds" (top 29) := ⟨_, fd__law_deeds, He.glo_ok X G (c.fact 23 (f := .glo "_law_deeds") rfl), F__law_deeds⟩
  obtain ⟨fd__law_is_all_marked, F__law_is_all_marked⟩ := c.def_ 24 (d := mkD 30 "_law_is_all_marked") rfl
  have D__law_is_all_marked : DefAt K mg "_law_is_all_marked" (top 30) := ⟨_, fd__law_is_all_marked, He.glo_ok X G (c.fact 24 (f := .glo "_law_is_all_marked") rfl), F__law_is_all_marked⟩
  obtain ⟨fd__law_is_told, F__law_is_told⟩ := c.def_ 25 (d := mkD 31 "_law_is_told") rfl
  have D__law_is_told : DefAt K mg "_law_is_told" (top 31) := ⟨_, fd__law_is_told, He.glo_ok X G (c.fact 25 (f := .glo "_law_is_told") rfl), F__law_is_told⟩
  obtain ⟨fd_law, F_law⟩ := c.def_ 26 (d := mkD 32 "law") rfl
  have D_law : DefAt K mg "law" (top 32) := ⟨_, fd_law, He.glo_ok X G (c.fact 26 (f := .glo "law") rfl), F_law⟩
  have g_all : mg "all" = none := He.free_ok X G (c.fact 27 (f := .free "all") rfl)
  have g_any : mg "any" = none := He.free_ok X G (c.fact 28 (f := .free "any") rfl)
  have g_dict : mg "dict" = none := He.free_ok X G (c.fact 29 (f := .free "dict") rfl)
  have g_enumerate : mg "enumerate" = none := He.free_ok X G (c.fact 30 (f := .free "enumerate") rfl)
  have g_isinstance : mg "isinstance" = none := He.free_ok X G (c.fact 31 (f := .free "isinstance") rfl)
  have g_len : mg "len" = none := He.free_ok X G (c.fact 32 (f := .free "len") rfl)
  have g_max : mg "max" = none := He.free_ok X G (c.fact 33 (f := .free "max") rfl)
  have g_range : mg "range" = none := He.free_ok X G (c.fact 34 (f := .free "range") rfl)
  have g_sorted : mg "sorted" = none := He.free_ok X G (c.fact 35 (f := .free "sorted") rfl)
  have g_tuple : mg "tuple" = none := He.free_ok X G (c.fact 36 (f := .free "tuple") rfl)
  have g_zip : mg "zip" = none := He.free_ok X G (c.fact 37 (f := .free "zip") rfl)
  have e0 := c0.more
  obtain ⟨e_BARE, e0⟩ := He.ba e0
  obtain ⟨e_KINDS, e0⟩ := He.ba e0
  have c_BARE : GlTab K w mg "BARE" tab_BARE := gltab_of X G (c.fact 38 (f := .glo "BARE") rfl) (c0.t.tab 0 rfl) e_BARE (fun z d hz => by
    simp only [tab_BARE, List.mem_cons, List.not_mem_nil, or_false, Prod.mk.injEq] at hz
    rcases hz with ⟨rfl, rfl⟩ | ⟨rfl, rfl⟩
    · exact ⟨.bl false, by simp, fun H => .bl _⟩
    · exact ⟨.non, by simp, fun H => .non⟩)
  have c_KINDS : GlC K mg "KINDS" cst_KINDS := glc_tup X G (c.fact 39 (f := .glo "KINDS") rfl) e_KINDS (fun H => (.cons (.str _ (by decide +kernel)) (.cons (.str _ (by decide +kernel)) .nil)))
  have e := hfa.symm.trans (He.glo_ok X G (c.fact 26 (f := .glo "law") rfl))
  cases e
  have b := FunD.bindsA (ps := ps_law) F_law fun _ _ _ _ _ _ us hl => match us, hl with | [_], _ => rfl
  refine ⟨_, fun s v => b s [v] rfl, fun base _ _ => ?_⟩
  have G__law_cell : Good P w K mg base "_law_cell" ps__law_cell 1 sp__law_cell := good__law_cell D__law_cell g_len
  have G__law_mix : Good P w K mg base "_law_mix" ps__law_mix 1 sp__law_mix := good__law_mix D__law_mix 
  have G__law_letter : Good P w K mg base "_law_letter" ps__law_letter 2 sp__law_letter := good__law_letter D__law_letter g_len G__law_mix
  have G__law_value : Good P w K mg base "_law_value" ps__law_value 2 sp__law_value := good__law_value D__law_value G__law_mix
  have G__law_deeds : Good P w K mg base "_law_deeds" ps__law_deeds 3 sp__law_deeds := good__law_deeds D__law_deeds g_len g_range g_tuple G__law_letter G__law_mix G__law_value
  have G_counts : Good P w K mg base "counts" ps_counts 1 sp_counts := good_counts D_counts g_max
  have G_marks_of : Good P w K mg base "marks_of" ps_marks_of 1 sp_marks_of := good_marks_of D_marks_of 
  have G_counting_marks : Good P w K mg base "counting_marks" ps_counting_marks 2 sp_counting_marks := good_counting_marks D_counting_marks G_counts G_marks_of
  have G_is_covered : Good P w K mg base "is_covered" ps_is_covered 1 sp_is_covered := good_is_covered D_is_covered 
  have G_first_telling : Good P w K mg base "first_telling" ps_first_telling 2 sp_first_telling := good_first_telling D_first_telling G_is_covered
  have G_letters_of : Good P w K mg base "letters_of" ps_letters_of 1 sp_letters_of := good_letters_of D_letters_of g_dict
  have G_order : Good P w K mg base "order" ps_order 1 sp_order := good_order D_order g_sorted g_tuple
  have G_places_of : Good P w K mg base "places_of" ps_places_of 2 sp_places_of := good_places_of D_places_of g_dict g_enumerate G_order
  have G_is_shown : Good P w K mg base "is_shown" ps_is_shown 2 sp_is_shown := good_is_shown D_is_shown g_any G_counts
  have G_shown : Good P w K mg base "shown" ps_shown 3 sp_shown := good_shown D_shown G_is_shown G_order
  have G_spans : Good P w K mg base "spans" ps_spans 4 sp_spans := good_spans D_spans g_dict g_tuple c_BARE c_KINDS G_counting_marks G_first_telling G_letters_of G_places_of G_shown
  have G_text : Good P w K mg base "text" ps_text 4 sp_text := good_text D_text G_letters_of G_shown
  have G__law_is_all_marked : Good P w K mg base "_law_is_all_marked" ps__law_is_all_marked 5 sp__law_is_all_marked := good__law_is_all_marked D__law_is_all_marked G_spans G_text
  have G_covers : Good P w K mg base "covers" ps_covers 3 sp_covers := good_covers D_covers G_is_covered G_places_of
  have G_is_row : Good P w K mg base "is_row" ps_is_row 4 sp_is_row := good_is_row D_is_row g_isinstance g_len g_tuple G_counts G_covers
  have G_later_marks : Good P w K mg base "later_marks" ps_later_marks 2 sp_later_marks := good_later_marks D_later_marks g_sorted G_marks_of
  have G_is_paper : Good P w K mg base "is_paper" ps_is_paper 5 sp_is_paper := good_is_paper D_is_paper g_all g_isinstance g_len g_tuple g_zip G_counts G_covers G_is_row G_later_marks G_marks_of
  have G_teller : Good P w K mg base "teller" ps_teller 3 sp_teller := good_teller D_teller G_counting_marks G_first_telling G_places_of
  have G_paper : Good P w K mg base "paper" ps_paper 4 sp_paper := good_paper D_paper g_tuple G_counts G_later_marks G_teller
  have G_value : Good P w K mg base "value" ps_value 3 sp_value := good_value D_value c_BARE G_counting_marks G_first_telling G_places_of
  have G__law_is_told : Good P w K mg base "_law_is_told" ps__law_is_told 6 sp__law_is_told := good__law_is_told D__law_is_told g_len G_is_paper G_is_shown G_order G_paper G_spans G_text G_value
  refine spQ_of (fnok_of F_law sc_law t_law ?_ (fun f cdv A outer s H E hr => der_law g_len g_range G__law_cell G__law_deeds G__law_is_all_marked G__law_is_told G__law_mix G_order G_teller G_value f cdv A outer s H E hr) ?_)
  · rintro ds G R RE ⟨⟨xs, rfl⟩, _⟩; rfl
  · rintro ds G R RE ⟨⟨xs, rfl⟩, rfl, rfl⟩; exact pure_law xs
end K
open PySem PySem.W PySem.Calls PyProof.Rows
set_option maxHeartbeats 0 in
theorem PySem.Challenge.cw_handmarks_k05_whole_told_holds : PySem.Challenge.rw_handmarks_k05_whole_told.Holds := by
  w_on; o_law
  refine HandSHeadRun.head_any (r := OpenLaw.row PySem.Challenge.rw_handmarks_k05_whole_told) (q := view (OpenLaw.row PySem.Challenge.rw_handmarks_k05_whole_told).prog [32]) (H := K.hk) (ob := K.ob) (M := 4000) (loose := K.loose) (d := HandSHeadRun.topDef (OpenLaw.row PySem.Challenge.rw_handmarks_k05_whole_told).prog 32) (kwd := []) K.ob_eq
    (by kernel_rfl) (fun s => by kernel_rfl) K.run (by kernel_rfl) (by kernel_rfl) (by kernel_rfl) (by rfl) (by first | assumption | decide +kernel) (by decide +kernel) ⟨rfl, rfl, rfl, rfl, rfl, by decide +kernel⟩ ?hw ?hc
  case hw => w_witness2
  case hc =>
    refine L2.walk_ofE (l := PySem.Challenge.rw_handmarks_k05_whole_told) (n := 63) (k := 7) (x := "_law_script") (CX := L2.CX0) rfl (by decide) (by kernel_rfl) ⟨rfl, by decide, by decide⟩ ?F (fun _ _ _ _ z => z)
    intro w mg fa h Y G hmg0
    obtain ⟨KK, KX, c⟩ := Y
    have hmg : mg ("law" : PySem.Str) = some (.ref fa) := by
      have e : (HandSHeadRun.topDef (OpenLaw.row PySem.Challenge.rw_handmarks_k05_whole_told).prog 32).name = ("law" : PySem.Str) := by kernel_rfl
      rw [← e]
      exact hmg0
    obtain ⟨fd, hb, hF⟩ := K.facts (P := (PySem.Challenge.rw_handmarks_k05_whole_told).prog) (w := w) KX G hmg c
    exact ⟨KK, fd, DD.lsp KK w DD.spLaw, KX, hb, fun H a ns hl hO hS => DD.law_sp hO hS, hF⟩

