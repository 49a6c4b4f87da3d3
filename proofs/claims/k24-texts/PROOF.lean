import PyProof.Rows.All
import Wide.All
import OpenK.AllK
import Wide.FinOn
import PyProof.EqAt
import PyProof.EqKinds
import PyProof.TupleCall
import HandS.ForMost
import HandS.ForExc
import HandS.Walk
import HandS.Deep
import HandS.TupAny
import HandS.IsInst
import HandS.Conv
import HandS.ListEq
import PyProof.TupleOfSeq
import HandS.Strs
import HandS.Remove
import HandS.SetFor
import KE.SortData
import HandS.ExcIs
import HandS.TryOnly
import PyProof.StrOps2
import KE.DataMinMax
import PyProof.NeKinds
import HandS.Zip
import KE.GoesMore
import HandS.Dict
import HandS.NoneIn
import HandS.Sort
import HandS.TupMul
import HandS.Comp
import HandS.Text
import HandS.Iter
import KE.IntTextLaws
import PyProof.StrLawsChain
import PyProof.StrLawsTight
import PyProof.StrLawsIn
import PyProof.Rows.StrItems
import PyProof.Rows.StrFirst
import PySem.Challenge.RW_ranksure_k24_texts
set_option Elab.async false
set_option linter.all false
set_option maxRecDepth 100000
set_option maxHeartbeats 2000000
/-! The data layer: what a def does to plain data, as a total function; no heap in sight of the mathematics. -/
namespace L2.DL
open PySem PySem.Spec PyProof.Rows

/-! ### results -/
inductive Res (α : Type) where
  | ok (a : α) | err (c : Str) | bad
def Res.bind {α β : Type} : Res α → (α → Res β) → Res β
  | .ok a, f => f a
  | .err c, _ => .err c
  | .bad, _ => .bad
@[simp] theorem Res.bind_ok {α β : Type} (a : α) (f : α → Res β) : (Res.ok a).bind f = f a := rfl
@[simp] theorem Res.bind_err {α β : Type} (c : Str) (f : α → Res β) : (Res.err c : Res α).bind f = .err c := rfl
@[simp] theorem Res.bind_bad {α β : Type} (f : α → Res β) : (Res.bad : Res α).bind f = .bad := rfl
def Res.of {α : Type} : Option α → Res α
  | some a => .ok a
  | none => .bad
@[simp] theorem Res.of_some {α : Type} (a : α) : Res.of (some a) = .ok a := rfl
@[simp] theorem Res.of_none {α : Type} : (Res.of (none : Option α)) = .bad := rfl
abbrev Env := List (Option PyData)
abbrev Ex := Env → Res PyData
abbrev Te := Env → Res Bool
abbrev Ar := Env → Res (List PyData)

/-! ### data and the heap: as L2.Dp, but that a tuple's object is known to have no dict (its methods want it) -/
def PlT (K : PySem.W.Frag) (H : Hp) (a : Addr) (xs : List V) : Prop :=
  (∃ o : Obj, H a = some (.frz o (.tup xs)) ∧ o.dict = none) ∨
    ∃ (o : Obj) (its : Array Value) (n : Nat), K.lookup a = some o ∧ o.cls = .type "tuple" ∧ o.dict = none ∧ o.data = .seq its n ∧ its.size ≤ sizeLine ∧ Vals xs its.toList
theorem PlT.sqt {K : PySem.W.Frag} {H : Hp} {a : Addr} {xs : List V} (h : PlT K H a xs) : SqT K H a xs := by
  rcases h with ⟨o, h, _⟩ | ⟨o, its, n, h1, h2, _, h3⟩
  · exact .inl (.inr ⟨o, h⟩)
  · exact .inr ⟨o, its, n, h1, h2, h3⟩
theorem PlT.mono {K : PySem.W.Frag} {H H' : Hp} {a : Addr} {xs : List V} (s : Same H H') (h : PlT K H a xs) : PlT K H' a xs := by
  rcases h with ⟨o, h, d⟩ | h
  · exact .inl ⟨o, s _ _ h, d⟩
  · exact .inr h
/-- a key of a dict -/
def keyD : Key → PyData
  | .inl i => .int i
  | .inr x => .str x
/-- the class of a name of the text -/
def ClsAt (K : PySem.W.Frag) (c : Str) (C : Addr) : Prop := PySem.W.nsIn K mainGlobals c = some (some (.ref C))
theorem ClsAt.one {K : PySem.W.Frag} {c : Str} {C D : Addr} (h : ClsAt K c C) (h' : ClsAt K c D) : C = D := by
  unfold ClsAt at h h'
  rw [h] at h'
  cases h'
  rfl
/-- an instance as data: its class and its place ahead of its fields -/
def insTag (c : Str) (a : Addr) : PyData × PyData := (.none, .tuple [.str c, .int ((a : Nat) : Int)])
mutual
inductive Dp (K : PySem.W.Frag) (H : Hp) : V → PyData → Prop
  | non : Dp K H .non .none
  | bl (b : Bool) : Dp K H (.bl b) (.bool b)
  | int (i : Int) : Dp K H (.int i) (.int i)
  | str (x : Str) : Dp K H (.str x) (.str x)
  | lst {a : Addr} {xs : List V} {ds : List PyData} : SqL K H a xs → DpAll K H xs ds → Dp K H (.ref a) (.list ds)
  | tup {a : Addr} {xs : List V} {ds : List PyData} : PlT K H a xs → DpAll K H xs ds → Dp K H (.ref a) (.tuple ds)
  | dic {a : Addr} {kvs : List (Key × V)} {ds : List (PyData × PyData)} : Rd H a (.dK kvs) → DpK K H kvs ds → Dp K H (.ref a) (.dict ds)
  | ins {a dx C : Addr} {c : Str} {fs : List (Str × V)} {ds : List (PyData × PyData)} : H a = some (.ins C dx fs) → ClsAt K c C → DpF K H fs ds → Dp K H (.ref a) (.dict (insTag c a :: ds))
inductive DpAll (K : PySem.W.Frag) (H : Hp) : List V → List PyData → Prop
  | nil : DpAll K H [] []
  | cons {v : V} {vs : List V} {d : PyData} {ds : List PyData} : Dp K H v d → DpAll K H vs ds → DpAll K H (v :: vs) (d :: ds)
inductive DpK (K : PySem.W.Frag) (H : Hp) : List (Key × V) → List (PyData × PyData) → Prop
  | nil : DpK K H [] []
  | cons {k : Key} {v : V} {vs : List (Key × V)} {d : PyData} {ds : List (PyData × PyData)} : Dp K H v d → DpK K H vs ds → DpK K H ((k, v) :: vs) ((keyD k, d) :: ds)
inductive DpF (K : PySem.W.Frag) (H : Hp) : List (Str × V) → List (PyData × PyData) → Prop
  | nil : DpF K H [] []
  | cons {x : Str} {v : V} {vs : List (Str × V)} {d : PyData} {ds : List (PyData × PyData)} : Dp K H v d → DpF K H vs ds → DpF K H ((x, v) :: vs) ((.str x, d) :: ds)
end
mutual
theorem dpOld {K : PySem.W.Frag} {H : Hp} : ∀ {v : V} {d : PyData}, Dp K H v d → d.canLay0 = true → L2.Dp K H v d
  | _, _, .non, _ => .non
  | _, _, .bl b, _ => .bl b
  | _, _, .int i, _ => .int i
  | _, _, .str x, _ => .str x
  | _, _, .lst h a, c => .lst h (dpAllOld a (by simpa [PyData.canLay0] using c))
  | _, _, .tup h a, c => .tup h.sqt (dpAllOld a (by simpa [PyData.canLay0] using c))
  | _, _, .dic _ _, c => by simp [PyData.canLay0] at c
  | _, _, .ins _ _ _, c => by simp [PyData.canLay0] at c
theorem dpAllOld {K : PySem.W.Frag} {H : Hp} : ∀ {vs : List V} {ds : List PyData}, DpAll K H vs ds → PyData.canLayAll0 ds = true → L2.DpAll K H vs ds
  | _, _, .nil, _ => .nil
  | _, _, .cons h t, c => .cons (dpOld h (by simp only [PyData.canLayAll0, Bool.and_eq_true] at c; exact c.1)) (dpAllOld t (by simp only [PyData.canLayAll0, Bool.and_eq_true] at c; exact c.2))
end
theorem Same.rd {H H' : Hp} {a : Addr} {u : HO} (s : Same H H') (h : Rd H a u) : Rd H' a u := by
  rcases h with h | ⟨o, h⟩
  · exact .inl (s _ _ h)
  · exact .inr ⟨o, s _ _ h⟩
mutual
theorem dpMono {K : PySem.W.Frag} {H H' : Hp} (s : Same H H') : ∀ {v : V} {d : PyData}, Dp K H v d → Dp K H' v d
  | _, _, .non => .non
  | _, _, .bl b => .bl b
  | _, _, .int i => .int i
  | _, _, .str x => .str x
  | _, _, .lst h a => .lst (s.seq h) (dpAllMono s a)
  | _, _, .tup h a => .tup (h.mono s) (dpAllMono s a)
  | _, _, .dic h a => .dic (Same.rd s h) (dpKMono s a)
  | _, _, .ins h c a => .ins (s _ _ h) c (dpFMono s a)
theorem dpAllMono {K : PySem.W.Frag} {H H' : Hp} (s : Same H H') : ∀ {vs : List V} {ds : List PyData}, DpAll K H vs ds → DpAll K H' vs ds
  | _, _, .nil => .nil
  | _, _, .cons h t => .cons (dpMono s h) (dpAllMono s t)
theorem dpKMono {K : PySem.W.Frag} {H H' : Hp} (s : Same H H') : ∀ {vs : List (Key × V)} {ds : List (PyData × PyData)}, DpK K H vs ds → DpK K H' vs ds
  | _, _, .nil => .nil
  | _, _, .cons h t => .cons (dpMono s h) (dpKMono s t)
theorem dpFMono {K : PySem.W.Frag} {H H' : Hp} (s : Same H H') : ∀ {vs : List (Str × V)} {ds : List (PyData × PyData)}, DpF K H vs ds → DpF K H' vs ds
  | _, _, .nil => .nil
  | _, _, .cons h t => .cons (dpMono s h) (dpFMono s t)
end
theorem lay_of_shaped {d : PyData} (h : SeqAt.shaped d = true) : d.canLay0 = true := by
  unfold SeqAt.shaped at h
  simp only [Bool.and_eq_true] at h
  exact h.1
theorem layAll_of_shaped {ds : List PyData} (h : SeqAt.shaped (.list ds) = true) : PyData.canLayAll0 ds = true := by
  simpa [PyData.canLay0] using lay_of_shaped h
theorem sameUpd {H : Hp} {p : Addr} {o : HO} (h : H p = none) : Same H (upd H p o) := fun b x e => by
  rw [upd_ne (ne_of_none e h)]
  exact e
theorem DpAll.len {K : PySem.W.Frag} {H : Hp} : ∀ {vs : List V} {ds : List PyData}, DpAll K H vs ds → vs.length = ds.length
  | _, _, .nil => rfl
  | _, _, .cons _ t => congrArg (· + 1) (DpAll.len t)
theorem DpAll.get {K : PySem.W.Frag} {H : Hp} : ∀ {vs : List V} {ds : List PyData} {i : Nat} {d : PyData}, DpAll K H vs ds → ds[i]? = some d → ∃ v, vs[i]? = some v ∧ Dp K H v d
  | _, _, _, _, .nil, e => by simp at e
  | _, _, 0, _, .cons h _, e => by
    simp at e
    subst e
    exact ⟨_, rfl, h⟩
  | _, _, i + 1, d, .cons _ t, e => by
    obtain ⟨v, h1, h2⟩ := DpAll.get (i := i) (d := d) t (by simpa using e)
    exact ⟨v, by simpa using h1, h2⟩
theorem DpAll.getV {K : PySem.W.Frag} {H : Hp} : ∀ {vs : List V} {ds : List PyData} {i : Nat} {v : V}, DpAll K H vs ds → vs[i]? = some v → ∃ d, ds[i]? = some d ∧ Dp K H v d
  | _, _, _, _, .nil, e => by simp at e
  | _, _, 0, _, .cons h _, e => by
    simp at e
    subst e
    exact ⟨_, rfl, h⟩
  | _, _, i + 1, v, .cons _ t, e => by
    obtain ⟨d, h1, h2⟩ := DpAll.getV (i := i) (v := v) t (by simpa using e)
    exact ⟨d, by simpa using h1, h2⟩
theorem DpAll.app {K : PySem.W.Frag} {H : Hp} : ∀ {vs ws : List V} {ds es : List PyData}, DpAll K H vs ds → DpAll K H ws es → DpAll K H (vs ++ ws) (ds ++ es)
  | _, _, _, _, .nil, q => q
  | _, _, _, _, .cons h t, q => .cons h (DpAll.app t q)
theorem DpAll.take {K : PySem.W.Frag} {H : Hp} : ∀ {vs : List V} {ds : List PyData} (n : Nat), DpAll K H vs ds → DpAll K H (vs.take n) (ds.take n)
  | _, _, 0, _ => by simpa using DpAll.nil
  | _, _, _ + 1, .nil => by simpa using DpAll.nil
  | _, _, n + 1, .cons h t => by simpa using DpAll.cons h (DpAll.take n t)
theorem DpAll.drop {K : PySem.W.Frag} {H : Hp} : ∀ {vs : List V} {ds : List PyData} (n : Nat), DpAll K H vs ds → DpAll K H (vs.drop n) (ds.drop n)
  | _, _, 0, h => by simpa using h
  | _, _, _ + 1, .nil => by simpa using DpAll.nil
  | _, _, n + 1, .cons h t => by simpa using DpAll.drop n t
theorem DpAll.set {K : PySem.W.Frag} {H : Hp} {v : V} {d : PyData} (q : Dp K H v d) : ∀ {vs : List V} {ds : List PyData} (n : Nat), DpAll K H vs ds → DpAll K H (vs.set n v) (ds.set n d)
  | _, _, _, .nil => by simpa using DpAll.nil
  | _, _, 0, .cons h t => by simpa using DpAll.cons q t
  | _, _, n + 1, .cons h t => by simpa using DpAll.cons h (DpAll.set q n t)
theorem DpAll.erase {K : PySem.W.Frag} {H : Hp} : ∀ {vs : List V} {ds : List PyData} (n : Nat), DpAll K H vs ds → DpAll K H (vs.eraseIdx n) (ds.eraseIdx n)
  | _, _, _, .nil => by simpa using DpAll.nil
  | _, _, 0, .cons h t => by simpa using t
  | _, _, n + 1, .cons h t => by simpa using DpAll.cons h (DpAll.erase n t)

/-- the slots hold the data -/
structure DpS (K : PySem.W.Frag) (H : Hp) (σ : St) (ρ : Env) : Prop where
  len : ρ.length = σ.length
  get : ∀ (i : Nat) (d : PyData), ρ[i]? = some (some d) → ∃ v, σ[i]? = some (some v) ∧ Dp K H v d
theorem DpS.mono {K : PySem.W.Frag} {H H' : Hp} {σ : St} {ρ : Env} (h : DpS K H σ ρ) (s : Same H H') : DpS K H' σ ρ := ⟨h.len, fun i d e => by
  obtain ⟨v, h1, h2⟩ := h.get i d e
  exact ⟨v, h1, dpMono s h2⟩⟩
theorem DpS.set {K : PySem.W.Frag} {H : Hp} {σ : St} {ρ : Env} {i : Nat} {v : V} {d : PyData} (h : DpS K H σ ρ) (q : Dp K H v d) : DpS K H (σ.set i (some v)) (ρ.set i (some d)) := by
  refine ⟨by rw [List.length_set, List.length_set, h.len], fun j e hj => ?_⟩
  by_cases hij : i = j
  · subst hij
    by_cases hl : i < ρ.length
    · rw [List.getElem?_set_self hl] at hj
      cases hj
      exact ⟨v, List.getElem?_set_self (by rw [← h.len]; exact hl), q⟩
    · rw [List.getElem?_eq_none (by rw [List.length_set]; omega)] at hj
      cases hj
  · rw [List.getElem?_set_ne hij] at hj
    rw [List.getElem?_set_ne hij]
    exact h.get j e hj

/-! ### what is asked behind an expression -/
/-- an exception of the text's own classes has no dict yet -/
abbrev D0 := {d : Option Addr // d = none}
def Post (K : PySem.W.Frag) (mg : Str → Option Value) (W : WX) (σ : St) (H : Hp) (Q : VK) : Res PyData → Prop
  | .ok d => ∀ v H', Same H H' → Dp K H' v d → Q v H'
  | .err c => ∃ C, mg c = some (.ref C) ∧ ∀ (d : D0) H', Same H H' → W (.ref C) d σ H'
  | .bad => False
def PostB (K : PySem.W.Frag) (mg : Str → Option Value) (W : WX) (σ : St) (H : Hp) (Q : Bool → Hp → Prop) : Res Bool → Prop
  | .ok b => ∀ H', Same H H' → Q b H'
  | .err c => ∃ C, mg c = some (.ref C) ∧ ∀ (d : D0) H', Same H H' → W (.ref C) d σ H'
  | .bad => False
def PostA (K : PySem.W.Frag) (mg : Str → Option Value) (W : WX) (σ : St) (n : Nat) (H : Hp) (Q : List V → Hp → Prop) : Res (List PyData) → Prop
  | .ok ds => ∀ vs H', vs.length = n → Same H H' → DpAll K H' vs ds → Q vs H'
  | .err c => ∃ C, mg c = some (.ref C) ∧ ∀ (d : D0) H', Same H H' → W (.ref C) d σ H'
  | .bad => False
section
variable {K : PySem.W.Frag} {mg : Str → Option Value} {W : WX} {σ : St} {H H' : Hp}
theorem Post.mono {Q : VK} {r : Res PyData} (h : Post K mg W σ H Q r) (s : Same H H') : Post K mg W σ H' Q r := by
  cases r with
  | ok d => exact fun v H2 s2 q => h v H2 (s.trans s2) q
  | err c =>
    obtain ⟨C, h1, h2⟩ := h
    exact ⟨C, h1, fun d H2 s2 => h2 d H2 (s.trans s2)⟩
  | bad => exact h
theorem Post.imp {Q Q' : VK} {r : Res PyData} (h : Post K mg W σ H Q r) (k : ∀ v H', Same H H' → Q v H' → Q' v H') : Post K mg W σ H Q' r := by
  cases r with
  | ok d => exact fun v H2 s2 q => k v H2 s2 (h v H2 s2 q)
  | err c => exact h
  | bad => exact h
theorem PostB.mono {Q : Bool → Hp → Prop} {r : Res Bool} (h : PostB K mg W σ H Q r) (s : Same H H') : PostB K mg W σ H' Q r := by
  cases r with
  | ok d => exact fun H2 s2 => h H2 (s.trans s2)
  | err c =>
    obtain ⟨C, h1, h2⟩ := h
    exact ⟨C, h1, fun d H2 s2 => h2 d H2 (s.trans s2)⟩
  | bad => exact h
theorem PostA.mono {n : Nat} {Q : List V → Hp → Prop} {r : Res (List PyData)} (h : PostA K mg W σ n H Q r) (s : Same H H') : PostA K mg W σ n H' Q r := by
  cases r with
  | ok d => exact fun v H2 hl s2 q => h v H2 hl (s.trans s2) q
  | err c =>
    obtain ⟨C, h1, h2⟩ := h
    exact ⟨C, h1, fun d H2 s2 => h2 d H2 (s.trans s2)⟩
  | bad => exact h
theorem PostA.imp {n : Nat} {Q Q' : List V → Hp → Prop} {r : Res (List PyData)} (h : PostA K mg W σ n H Q r) (k : ∀ vs H', Same H H' → Q vs H' → Q' vs H') : PostA K mg W σ n H Q' r := by
  cases r with
  | ok d => exact fun v H2 hl s2 q => k v H2 s2 (h v H2 hl s2 q)
  | err c => exact h
  | bad => exact h
theorem PostB.imp {Q Q' : Bool → Hp → Prop} {r : Res Bool} (h : PostB K mg W σ H Q r) (k : ∀ b H', Same H H' → Q b H' → Q' b H') : PostB K mg W σ H Q' r := by
  cases r with
  | ok d => exact fun H2 s2 => k _ H2 s2 (h H2 s2)
  | err c => exact h
  | bad => exact h
/-- first r, then k -/
theorem Post.bind {Q : VK} {r : Res PyData} {k : PyData → Res PyData} (h : Post K mg W σ H Q (r.bind k)) :
    Post K mg W σ H (fun v H' => ∃ d, r = .ok d ∧ Same H H' ∧ Dp K H' v d ∧ Post K mg W σ H' Q (k d)) r := by
  cases r with
  | ok d => exact fun v H2 s2 q => ⟨d, rfl, s2, q, Post.mono (r := k d) h s2⟩
  | err c => exact h
  | bad => exact h
theorem Post.bindB {Q : Bool → Hp → Prop} {r : Res PyData} {k : PyData → Res Bool} (h : PostB K mg W σ H Q (r.bind k)) :
    Post K mg W σ H (fun v H' => ∃ d, r = .ok d ∧ Same H H' ∧ Dp K H' v d ∧ PostB K mg W σ H' Q (k d)) r := by
  cases r with
  | ok d => exact fun v H2 s2 q => ⟨d, rfl, s2, q, PostB.mono (r := k d) h s2⟩
  | err c => exact h
  | bad => exact h
theorem Post.bindA {n : Nat} {Q : List V → Hp → Prop} {r : Res PyData} {k : PyData → Res (List PyData)} (h : PostA K mg W σ n H Q (r.bind k)) :
    Post K mg W σ H (fun v H' => ∃ d, r = .ok d ∧ Same H H' ∧ Dp K H' v d ∧ PostA K mg W σ n H' Q (k d)) r := by
  cases r with
  | ok d => exact fun v H2 s2 q => ⟨d, rfl, s2, q, PostA.mono (r := k d) h s2⟩
  | err c => exact h
  | bad => exact h
theorem PostB.bind {Q : VK} {r : Res Bool} {k : Bool → Res PyData} (h : Post K mg W σ H Q (r.bind k)) :
    PostB K mg W σ H (fun b H' => r = .ok b ∧ Same H H' ∧ Post K mg W σ H' Q (k b)) r := by
  cases r with
  | ok d => exact fun H2 s2 => ⟨rfl, s2, Post.mono (r := k d) h s2⟩
  | err c => exact h
  | bad => exact h
theorem PostB.bindB {Q : Bool → Hp → Prop} {r : Res Bool} {k : Bool → Res Bool} (h : PostB K mg W σ H Q (r.bind k)) :
    PostB K mg W σ H (fun b H' => r = .ok b ∧ Same H H' ∧ PostB K mg W σ H' Q (k b)) r := by
  cases r with
  | ok d => exact fun H2 s2 => ⟨rfl, s2, PostB.mono (r := k d) h s2⟩
  | err c => exact h
  | bad => exact h
theorem PostA.bind {n : Nat} {Q : VK} {r : Res (List PyData)} {k : List PyData → Res PyData} (h : Post K mg W σ H Q (r.bind k)) :
    PostA K mg W σ n H (fun vs H' => ∃ ds, r = .ok ds ∧ vs.length = n ∧ Same H H' ∧ DpAll K H' vs ds ∧ Post K mg W σ H' Q (k ds)) r := by
  cases r with
  | ok d => exact fun v H2 hl s2 q => ⟨d, rfl, hl, s2, q, Post.mono (r := k d) h s2⟩
  | err c => exact h
  | bad => exact h
theorem PostA.bindA {n m : Nat} {Q : List V → Hp → Prop} {r : Res (List PyData)} {k : List PyData → Res (List PyData)} (h : PostA K mg W σ m H Q (r.bind k)) :
    PostA K mg W σ n H (fun vs H' => ∃ ds, r = .ok ds ∧ vs.length = n ∧ Same H H' ∧ DpAll K H' vs ds ∧ PostA K mg W σ m H' Q (k ds)) r := by
  cases r with
  | ok d => exact fun v H2 hl s2 q => ⟨d, rfl, hl, s2, q, PostA.mono (r := k d) h s2⟩
  | err c => exact h
  | bad => exact h
end

/-! ### the judgements over data -/
def tD (K : PySem.W.Frag) (mg : Str → Option Value) (W : WX) (f : Ex) : TE := fun σ H Q => ∃ ρ, DpS K H σ ρ ∧ Post K mg W σ H Q (f ρ)
def tDT (K : PySem.W.Frag) (mg : Str → Option Value) (W : WX) (f : Te) : TT := fun σ H Q => ∃ ρ, DpS K H σ ρ ∧ PostB K mg W σ H Q (f ρ)
def tDA (K : PySem.W.Frag) (mg : Str → Option Value) (W : WX) (n : Nat) (f : Ar) : TA := fun σ H Q => ∃ ρ, DpS K H σ ρ ∧ PostA K mg W σ n H Q (f ρ)
abbrev DE (X : Cx) (W : WX) (e : Expr) (f : Ex) : Prop := PE X e (tD X.K X.mg W f)
abbrev DT (X : Cx) (W : WX) (e : Expr) (f : Te) : Prop := PT X e (tDT X.K X.mg W f)
abbrev DW (X : Cx) (W : WX) (e : Expr) (f : Te) : Prop := PW X e (tDT X.K X.mg W f)
abbrev DA (X : Cx) (W : WX) (es : List Expr) (f : Ar) : Prop := PA X es (tDA X.K X.mg W es.length f)
theorem peImp {X : Cx} {e : Expr} {t t' : TE} (h : PE X e t) (k : ∀ σ H Q, t' σ H Q → t σ H Q) : PE X e t' := ⟨fun pins s σ H Q I q => h.run pins s σ H Q I (k σ H Q q)⟩
theorem ptImp {X : Cx} {e : Expr} {t t' : TT} (h : PT X e t) (k : ∀ σ H Q, t' σ H Q → t σ H Q) : PT X e t' := ⟨fun pins s σ H Q I q => h.run pins s σ H Q I (k σ H Q q)⟩
theorem pwImp {X : Cx} {e : Expr} {t t' : TT} (h : PW X e t) (k : ∀ σ H Q, t' σ H Q → t σ H Q) : PW X e t' := ⟨fun w pins s σ H Q I q => h.run w pins s σ H Q I (k σ H Q q)⟩
theorem paImp {X : Cx} {es : List Expr} {t t' : TA} (h : PA X es t) (k : ∀ σ H Q, t' σ H Q → t σ H Q) : PA X es t' := ⟨fun pos pins s σ H Q I q => h.run pos pins s σ H Q I (k σ H Q q)⟩
theorem psImp {X : Cx} {st : Stmt} {t t' : TS} (h : PS X st t) (k : ∀ D σ H, t' D σ H → t D σ H) : PS X st t' := ⟨fun pins s σ H D I q => h.run pins s σ H D I (k D σ H q)⟩
theorem pssImp {X : Cx} {st : List Stmt} {t t' : TS} (h : PSs X st t) (k : ∀ D σ H, t' D σ H → t D σ H) : PSs X st t' := ⟨fun pins s σ H D I q => h.run pins s σ H D I (k D σ H q)⟩

/-! ### names, constants -/
def eVar (i : Nat) : Ex := fun ρ => Res.of (ρ[i]?.join)
def eC (d : PyData) : Ex := fun _ => .ok d
section
variable {X : Cx} {W : WX}
theorem dv (i : Nat) {x : Str} {pos : Pos} (hN : X.N[i]? = some x := by rfl) (hv : Vis X.env.scope x := by first | exact Or.inl rfl | exact Or.inr (Or.inl rfl) | exact Or.inr (Or.inr rfl)) (hd : (x == ("__debug__" : Str)) = false := by decide)
    (hcd : (x == ("__classdict__" : Str)) = false := by decide) : DE X W (.Name x pos) (eVar i) := by
  refine peImp (pe_var hN hv hd hcd) fun σ H Q h => ?_
  obtain ⟨ρ, hρ, h⟩ := h
  unfold eVar at h
  cases e : ρ[i]? with
  | none =>
    rw [e] at h
    exact h.elim
  | some o =>
    cases o with
    | none =>
      rw [e] at h
      exact h.elim
    | some d =>
      rw [e] at h
      obtain ⟨v, h1, h2⟩ := hρ.get i d e
      exact ⟨v, h1, h v H (Same.refl H) h2⟩
theorem deC {e : Expr} {v : V} {d : PyData} (h : PE X e (tC v)) (r : ∀ H, Dp X.K H v d) : DE X W e (eC d) := peImp h fun σ H Q ⟨ρ, _, q⟩ => q v H (Same.refl H) (r H)
theorem d_int {i j pos} : DE X W (.Constant (.int i) j pos) (eC (.int i)) := deC pe_int fun _ => .int _
theorem d_bl {b j pos} : DE X W (.Constant (.bool b) j pos) (eC (.bool b)) := deC pe_bl fun _ => .bl _
theorem d_non {j pos} : DE X W (.Constant .none j pos) (eC .none) := deC pe_non fun _ => .non
theorem d_str {x j pos} : DE X W (.Constant (.str x) j pos) (eC (.str x)) := deC pe_str fun _ => .str _
/-- a module's constant, an int -/
theorem d_glob {x : Str} {i : Int} {t : Tok} {pos : Pos} (hm : X.mg x = some (.int i t)) (hg : Gl X x := by rfl) (hd : (x == ("__debug__" : Str)) = false := by decide) : DE X W (.Name x pos) (eC (.int i)) := deC (v := .int i) (pe_glob hg hm ⟨_, rfl⟩ hd) fun _ => .int _
end

/-! ### operators -/
def eOp (op : PyData → PyData → Option PyData) (f g : Ex) : Ex := fun ρ => (f ρ).bind fun x => (g ρ).bind fun y => Res.of (op x y)
/-- the rule r serves the operation op -/
def Op2 (K : PySem.W.Frag) (r : R2) (op : PyData → PyData → Option PyData) : Prop := ∀ (x y : V) (dx dy d : PyData) (H : Hp) (Q : VK), Dp K H x dx → Dp K H y dy → op dx dy = some d → (∀ v H', Same H H' → Dp K H' v d → Q v H') → r x y H Q
section
variable {X : Cx} {W : WX} {a b c : Expr} {fa fb fc : Ex} {pos : Pos} {op : PyData → PyData → Option PyData} {r : R2}
theorem tOp_of (hr : Op2 X.K r op) {σ : St} {H : Hp} {Q : VK} (h : tD X.K X.mg W (eOp op fa fb) σ H Q) : tOp r (tD X.K X.mg W fa) (tD X.K X.mg W fb) σ H Q := by
  obtain ⟨ρ, hρ, h⟩ := h
  refine ⟨ρ, hρ, (Post.bind h).imp fun v H1 _ ⟨dx, _, s1, rx, h1⟩ => ⟨ρ, hρ.mono s1, (Post.bind h1).imp fun u H2 _ ⟨dy, _, s2, ry, h2⟩ => ?_⟩⟩
  cases e : op dx dy with
  | none =>
    rw [e] at h2
    exact h2.elim
  | some d =>
    rw [e] at h2
    exact hr v u dx dy d H2 Q (dpMono s2 rx) ry e h2
theorem d_op {o : Operator} (ho : OpR X (binaryOp o) r) (hr : Op2 X.K r op) (ha : DE X W a fa) (hb : DE X W b fb) : DE X W (.BinOp a o b pos) (eOp op fa fb) := peImp (pe_op ho ha hb) fun _ _ _ h => tOp_of hr h
theorem d_cmp {o : CmpOp} (ho : OpR X (compareOp o) r) (hr : Op2 X.K r op) (ha : DE X W a fa) (hb : DE X W b fb) (hm : behindInMarks o b = false) : DE X W (.Compare a [o] [b] pos) (eOp op fa fb) := peImp (pe_cmpR ho ha hb hm) fun _ _ _ h => tOp_of hr h
end

end L2.DL
set_option maxHeartbeats 2000000
namespace L2.DL
open PySem PySem.Spec PyProof.Rows

/-! ### tests -/
def asB : PyData → Res Bool
  | .bool b => .ok b
  | _ => .bad
@[simp] theorem asB_bool (b : Bool) : asB (.bool b) = .ok b := rfl
def eB (f : Ex) : Te := fun ρ => (f ρ).bind asB
def bE (f : Te) : Ex := fun ρ => (f ρ).bind fun b => .ok (.bool b)
def teAnd (f g : Te) : Te := fun ρ => (f ρ).bind fun c => if c = true then g ρ else .ok false
def teOr (f g : Te) : Te := fun ρ => (f ρ).bind fun c => if c = true then .ok true else g ρ
def teNot (f : Te) : Te := fun ρ => (f ρ).bind fun c => .ok (!c)
def eIf (c : Te) (a b : Ex) : Ex := fun ρ => (c ρ).bind fun k => if k = true then a ρ else b ρ
def eChain (op op' : PyData → PyData → Option PyData) (fa fb fc : Ex) : Te := fun ρ => (fa ρ).bind fun x => (fb ρ).bind fun y => (Res.of (op x y)).bind fun k => (asB k).bind fun k => if k = true then (fc ρ).bind fun z => (Res.of (op' y z)).bind asB else .ok false
section
variable {X : Cx} {W : WX} {a b c e : Expr} {fa fb fc f : Ex} {ta tb tc : Te} {pos : Pos} {op op' : PyData → PyData → Option PyData} {r r' : R2} {rest : List Expr}
theorem dp_bool {K : PySem.W.Frag} {H : Hp} {v : V} {k : Bool} (h : Dp K H v (.bool k)) : v = .bl k := by cases h; rfl
theorem tB_of {t : TE} {σ : St} {H : Hp} {Q : Bool → Hp → Prop} (k : ∀ σ H Q, tD X.K X.mg W f σ H Q → t σ H Q) (h : tDT X.K X.mg W (eB f) σ H Q) : t σ H fun x H1 => ∃ c, x = .bl c ∧ Q c H1 := by
  obtain ⟨ρ, hρ, h⟩ := h
  refine k σ H _ ⟨ρ, hρ, (Post.bindB h).imp fun v H1 _ ⟨d, _, s1, rx, h1⟩ => ?_⟩
  cases d with
  | bool b =>
    rw [dp_bool rx]
    exact ⟨b, rfl, h1 H1 (Same.refl _)⟩
  | _ => exact h1.elim
theorem dt_val (h : DE X W e f) (he : ∀ whole, isTrue e X.env whole = (do let v ← whole; standAt e.pos; holding [v] (truthy v)) := by intro _; rfl) : DT X W e (eB f) :=
  ptImp (pt_val h he) fun _ _ _ h => tB_of (fun _ _ _ q => q) h
theorem dt_cmp {o : CmpOp} (ho : OpR X (compareOp o) r) (hr : Op2 X.K r op) (ha : DE X W a fa) (hb : DE X W b fb) (hm : behindInMarks o b = false) : DT X W (.Compare a [o] [b] pos) (eB (eOp op fa fb)) :=
  ptImp (pt_cmpR ho ha hb hm) fun _ _ _ h => tB_of (fun _ _ _ q => tOp_of hr q) h
theorem dt_chain {o o' : CmpOp} (ho : OpR X (compareOp o) r) (hr : Op2 X.K r op) (ho' : OpR X (compareOp o') r') (hr' : Op2 X.K r' op') (ha : DE X W a fa) (hb : DE X W b fb) (hc : DE X W c fc)
    (hm : lastMarks [o, o'] [b, c] = false := by with_unfolding_all rfl) : DT X W (.Compare a [o, o'] [b, c] pos) (eChain op op' fa fb fc) := by
  refine ptImp (pt_chain ho ho' ha hb hc hm) fun σ H Q h => ?_
  obtain ⟨ρ, hρ, h⟩ := h
  refine ⟨ρ, hρ, (Post.bindB h).imp fun v H1 _ ⟨dx, _, s1, rx, h1⟩ => ⟨ρ, hρ.mono s1, (Post.bindB h1).imp fun u H2 _ ⟨dy, _, s2, ry, h2⟩ => ?_⟩⟩
  cases e1 : op dx dy with
  | none => rw [e1] at h2; exact h2.elim
  | some d =>
    rw [e1] at h2
    refine hr v u dx dy d H2 _ (dpMono s2 rx) ry e1 fun z H3 s3 rz => ?_
    cases d with
    | bool k =>
      rw [dp_bool rz]
      refine ⟨k, rfl, ?_⟩
      cases k with
      | true =>
        refine iteT ⟨ρ, ((hρ.mono s1).mono s2).mono s3, ?_⟩
        have h3 : PostB X.K X.mg W σ H3 Q ((fc ρ).bind fun z => (Res.of (op' dy z)).bind asB) := PostB.mono h2 s3
        refine (Post.bindB h3).imp fun w H4 _ ⟨dz, _, s4, rw', h4⟩ => ?_
        cases e2 : op' dy dz with
        | none => rw [e2] at h4; exact h4.elim
        | some d2 =>
          rw [e2] at h4
          refine hr' u w dy dz d2 H4 _ (dpMono (s3.trans s4) ry) rw' e2 fun z5 H5 s5 rz5 => ?_
          cases d2 with
          | bool k2 =>
            rw [dp_bool rz5]
            exact ⟨k2, rfl, h4 H5 s5⟩
          | _ => exact h4.elim
      | false => exact iteF ⟨false, rfl, h2 H3 s3⟩
    | _ => exact h2.elim
theorem dw_and1 (ha : DT X W a ta) : DW X W (.BoolOp .And [a] pos) ta := pw_and1 ha
theorem dw_or1 (ha : DT X W a ta) : DW X W (.BoolOp .Or [a] pos) ta := pw_or1 ha
theorem dw_and (ha : DT X W a ta) (hb : DW X W (.BoolOp .And (b :: rest) pos) tb) : DW X W (.BoolOp .And (a :: b :: rest) pos) (teAnd ta tb) := by
  refine pwImp (pw_and ha hb) fun σ H Q h => ?_
  obtain ⟨ρ, hρ, h⟩ := h
  refine ⟨ρ, hρ, ?_⟩
  have h1 := PostB.bindB h
  cases e : ta ρ with
  | ok b =>
    rw [e] at h1
    intro H1 s1
    have h2 := (h1 H1 s1).2.2
    cases b with
    | true => exact iteT ⟨ρ, hρ.mono s1, h2⟩
    | false => exact iteF (h2 H1 (Same.refl _))
  | err c => rw [e] at h1; exact h1
  | bad => rw [e] at h1; exact h1
theorem dw_or (ha : DT X W a ta) (hb : DW X W (.BoolOp .Or (b :: rest) pos) tb) : DW X W (.BoolOp .Or (a :: b :: rest) pos) (teOr ta tb) := by
  refine pwImp (pw_or ha hb) fun σ H Q h => ?_
  obtain ⟨ρ, hρ, h⟩ := h
  refine ⟨ρ, hρ, ?_⟩
  have h1 := PostB.bindB h
  cases e : ta ρ with
  | ok b =>
    rw [e] at h1
    intro H1 s1
    have h2 := (h1 H1 s1).2.2
    cases b with
    | true => exact iteT (h2 H1 (Same.refl _))
    | false => exact iteF ⟨ρ, hρ.mono s1, h2⟩
  | err c => rw [e] at h1; exact h1
  | bad => rw [e] at h1; exact h1
theorem dwt (h : DW X W e ta) : DT X W e ta := PW.pt h
theorem dt_not (ha : DT X W a ta) : DT X W (.UnaryOp .Not a pos) (teNot ta) := by
  refine ptImp (pt_not ha) fun σ H Q h => ?_
  obtain ⟨ρ, hρ, h⟩ := h
  refine ⟨ρ, hρ, ?_⟩
  have h1 := PostB.bindB h
  cases e : ta ρ with
  | ok b =>
    rw [e] at h1
    intro H1 s1
    exact (h1 H1 s1).2.2 H1 (Same.refl _)
  | err c => rw [e] at h1; exact h1
  | bad => rw [e] at h1; exact h1
/-- values of and, or, not: truth values -/
def eAnd (f g : Ex) : Ex := fun ρ => (f ρ).bind fun x => (asB x).bind fun c => if c = true then g ρ else .ok (.bool false)
def eOr (f g : Ex) : Ex := fun ρ => (f ρ).bind fun x => (asB x).bind fun c => if c = true then .ok (.bool true) else g ρ
def eNot (f : Ex) : Ex := fun ρ => (f ρ).bind fun x => (asB x).bind fun c => .ok (.bool (!c))
theorem d_one {o} (h : DE X W a fa) : DE X W (.BoolOp o [a] pos) fa := pe_one h
theorem d_and (ha : DE X W a fa) (hb : DE X W (.BoolOp .And (b :: rest) pos) fb) : DE X W (.BoolOp .And (a :: b :: rest) pos) (eAnd fa fb) := by
  refine peImp (pe_and ha hb) fun σ H Q h => ?_
  obtain ⟨ρ, hρ, h⟩ := h
  refine ⟨ρ, hρ, (Post.bind h).imp fun v H1 _ ⟨d, _, s1, rx, h1⟩ => ?_⟩
  cases d with
  | bool k =>
    rw [dp_bool rx]
    refine ⟨k, rfl, ?_⟩
    cases k with
    | true => exact iteT ⟨ρ, hρ.mono s1, h1⟩
    | false => exact iteF (h1 _ H1 (Same.refl _) (.bl _))
  | _ => exact h1.elim
theorem d_or (ha : DE X W a fa) (hb : DE X W (.BoolOp .Or (b :: rest) pos) fb) : DE X W (.BoolOp .Or (a :: b :: rest) pos) (eOr fa fb) := by
  refine peImp (pe_or ha hb) fun σ H Q h => ?_
  obtain ⟨ρ, hρ, h⟩ := h
  refine ⟨ρ, hρ, (Post.bind h).imp fun v H1 _ ⟨d, _, s1, rx, h1⟩ => ?_⟩
  cases d with
  | bool k =>
    rw [dp_bool rx]
    refine ⟨k, rfl, ?_⟩
    cases k with
    | true => exact iteT (h1 _ H1 (Same.refl _) (.bl _))
    | false => exact iteF ⟨ρ, hρ.mono s1, h1⟩
  | _ => exact h1.elim
theorem d_not (ha : DE X W a fa) : DE X W (.UnaryOp .Not a pos) (eNot fa) := by
  refine peImp (pe_not ha) fun σ H Q h => ?_
  obtain ⟨ρ, hρ, h⟩ := h
  refine ⟨ρ, hρ, (Post.bind h).imp fun v H1 _ ⟨d, _, s1, rx, h1⟩ => ?_⟩
  cases d with
  | bool k =>
    rw [dp_bool rx]
    exact ⟨k, rfl, h1 _ H1 (Same.refl _) (.bl _)⟩
  | _ => exact h1.elim
theorem d_if (hc : DT X W c tc) (ha : DE X W a fa) (hb : DE X W b fb) : DE X W (.IfExp c a b pos) (eIf tc fa fb) := by
  refine peImp (pe_ifExp hc ha hb) fun σ H Q h => ?_
  obtain ⟨ρ, hρ, h⟩ := h
  refine ⟨ρ, hρ, ?_⟩
  have h1 := PostB.bind h
  cases e : tc ρ with
  | ok b =>
    rw [e] at h1
    intro H1 s1
    have h2 := (h1 H1 s1).2.2
    cases b with
    | true => exact iteT ⟨ρ, hρ.mono s1, h2⟩
    | false => exact iteF ⟨ρ, hρ.mono s1, h2⟩
  | err c => rw [e] at h1; exact h1
  | bad => rw [e] at h1; exact h1
theorem d_chain {o o' : CmpOp} (ho : OpR X (compareOp o) r) (hr : Op2 X.K r op) (ho' : OpR X (compareOp o') r') (hr' : Op2 X.K r' op') (ha : DE X W a fa) (hb : DE X W b fb) (hc : DE X W c fc)
    (hm : lastMarks [o, o'] [b, c] = false := by with_unfolding_all rfl) : DE X W (.Compare a [o, o'] [b, c] pos) (bE (eChain op op' fa fb fc)) := by
  refine peImp (pe_chain ho ho' ha hb hc hm) fun σ H Q h => ?_
  obtain ⟨ρ, hρ, h⟩ := h
  have h0 := PostB.bind h
  have h : PostB X.K X.mg W σ H (fun b H' => Q (.bl b) H') (eChain op op' fa fb fc ρ) := by
    cases e : eChain op op' fa fb fc ρ with
    | ok b => rw [e] at h0; exact fun H1 s1 => (h0 H1 s1).2.2 _ H1 (Same.refl _) (.bl _)
    | err c => rw [e] at h0; exact h0
    | bad => rw [e] at h0; exact h0
  refine ⟨ρ, hρ, (Post.bindB h).imp fun v H1 _ ⟨dx, _, s1, rx, h1⟩ => ⟨ρ, hρ.mono s1, (Post.bindB h1).imp fun u H2 _ ⟨dy, _, s2, ry, h2⟩ => ?_⟩⟩
  cases e1 : op dx dy with
  | none => rw [e1] at h2; exact h2.elim
  | some d =>
    rw [e1] at h2
    refine hr v u dx dy d H2 _ (dpMono s2 rx) ry e1 fun z H3 s3 rz => ?_
    cases d with
    | bool k =>
      rw [dp_bool rz]
      refine ⟨k, rfl, ?_⟩
      cases k with
      | true =>
        refine iteT ⟨ρ, ((hρ.mono s1).mono s2).mono s3, ?_⟩
        have h3 : PostB X.K X.mg W σ H3 (fun b H' => Q (.bl b) H') ((fc ρ).bind fun z => (Res.of (op' dy z)).bind asB) := PostB.mono h2 s3
        refine (Post.bindB h3).imp fun w H4 _ ⟨dz, _, s4, rw', h4⟩ => ?_
        cases e2 : op' dy dz with
        | none => rw [e2] at h4; exact h4.elim
        | some d2 =>
          rw [e2] at h4
          refine hr' u w dy dz d2 H4 _ (dpMono (s3.trans s4) ry) rw' e2 fun z5 H5 s5 rz5 => ?_
          cases d2 with
          | bool k2 =>
            rw [dp_bool rz5]
            exact h4 H5 s5
          | _ => exact h4.elim
      | false => exact iteF (h2 H3 s3)
    | _ => exact h2.elim
end

/-! ### operators on data -/
def oI (g : Int → Int → PyData) : PyData → PyData → Option PyData
  | .int i, .int j => some (g i j)
  | _, _ => none
def oAdd : PyData → PyData → Option PyData := oI fun i j => .int (i + j)
def oSub : PyData → PyData → Option PyData := oI fun i j => .int (i - j)
/-- one factor within 64 bits -/
def oMul : PyData → PyData → Option PyData
  | .int i, .int j => if (-(2 ^ 64) < i ∧ i < 2 ^ 64) ∨ (-(2 ^ 64) < j ∧ j < 2 ^ 64) then some (.int (i * j)) else none
  | _, _ => none
def oMod : PyData → PyData → Option PyData
  | .int i, .int j => if 0 < j then some (.int (i % j)) else none
  | _, _ => none
def oDiv : PyData → PyData → Option PyData
  | .int i, .int j => if 0 < j ∧ j < 1073741824 then some (.int (i / j)) else none
  | _, _ => none
def oLt : PyData → PyData → Option PyData := oI fun i j => .bool (decide (i < j))
def oLe : PyData → PyData → Option PyData := oI fun i j => .bool (decide (i ≤ j))
def oGt : PyData → PyData → Option PyData := oI fun i j => .bool (decide (j < i))
def oGe : PyData → PyData → Option PyData := oI fun i j => .bool (decide (j ≤ i))
def oEq (x y : PyData) : Option PyData := if SeqAt.shaped x = true ∧ SeqAt.shaped y = true then some (.bool (PyData.eqv x y)) else none
def oNe (x y : PyData) : Option PyData := if SeqAt.shaped x = true ∧ SeqAt.shaped y = true then some (.bool (!PyData.eqv x y)) else none
def isN : PyData → Bool
  | .none => true
  | _ => false
def oIs (x y : PyData) : Option PyData := if isN y = true then some (.bool (isN x)) else none
def oIsNot (x y : PyData) : Option PyData := if isN y = true then some (.bool (!isN x)) else none
/-- t + u of tuples, of lists, of texts -/
def oCatT : PyData → PyData → Option PyData
  | .tuple xs, .tuple ys => if xs.length + ys.length ≤ 16777216 then some (.tuple (xs ++ ys)) else none
  | _, _ => none
def oCatL : PyData → PyData → Option PyData
  | .list xs, .list ys => if xs.length + ys.length ≤ 16777216 then some (.list (xs ++ ys)) else none
  | _, _ => none
def oCatS : PyData → PyData → Option PyData
  | .str x, .str y => if x.length + y.length ≤ 16777216 then some (.str (x ++ y)) else none
  | _, _ => none
def oIx : PyData → PyData → Option PyData
  | .list xs, .int i => atI xs i
  | .tuple xs, .int i => atI xs i
  | _, _ => none
def oIn (x : PyData) : PyData → Option PyData
  | .list ys => if SeqAt.shaped x = true ∧ SeqAt.shaped (.list ys) = true then some (.bool (ys.any fun z => PyData.eqv z x)) else none
  | _ => none
def oNotIn (x : PyData) : PyData → Option PyData
  | .list ys => if SeqAt.shaped x = true ∧ SeqAt.shaped (.list ys) = true then some (.bool (!ys.any fun z => PyData.eqv z x)) else none
  | _ => none
section
variable {K : PySem.W.Frag}
theorem dp_int {H : Hp} {v : V} {k : Int} (h : Dp K H v (.int k)) : v = .int k := by cases h; rfl
theorem dp_non {H : Hp} {v : V} (h : Dp K H v .none) : v = .non := by cases h; rfl
theorem dp_str {H : Hp} {v : V} {k : Str} (h : Dp K H v (.str k)) : v = .str k := by cases h; rfl
theorem o2I {g : Int → Int → V} {g' : Int → Int → PyData} (hg : ∀ i j H, Dp K H (g i j) (g' i j)) : Op2 K (rI0 g) (oI g') := by
  intro x y dx dy d H Q rx ry e q
  cases dx with
  | int i =>
    cases dy with
    | int j =>
      cases e
      exact ⟨i, j, dp_int rx, dp_int ry, q _ H (Same.refl _) (hg i j H)⟩
    | _ => cases e
  | _ => cases e
theorem o2_add : Op2 K (rI0 fun i j => .int (i + j)) oAdd := o2I fun _ _ _ => .int _
theorem o2_sub : Op2 K (rI0 fun i j => .int (i - j)) oSub := o2I fun _ _ _ => .int _
theorem o2_lt : Op2 K (rI0 fun i j => .bl (decide (i < j))) oLt := o2I fun _ _ _ => .bl _
theorem o2_le : Op2 K (rI0 fun i j => .bl (decide (i ≤ j))) oLe := o2I fun _ _ _ => .bl _
theorem o2_gt : Op2 K (rI0 fun i j => .bl (decide (j < i))) oGt := o2I fun _ _ _ => .bl _
theorem o2_ge : Op2 K (rI0 fun i j => .bl (decide (j ≤ i))) oGe := o2I fun _ _ _ => .bl _
theorem o2_mul : Op2 K (rI CMul fun i j => .int (i * j)) oMul := by
  intro x y dx dy d H Q rx ry e q
  cases dx with
  | int i =>
    cases dy with
    | int j =>
      unfold oMul at e
      dsimp only at e
      split at e
      · rename_i hc
        cases e
        exact ⟨i, j, dp_int rx, dp_int ry, hc, q _ H (Same.refl _) (.int _)⟩
      · cases e
    | _ => cases e
  | _ => cases e
theorem o2_mod : Op2 K (rI (fun _ j => 0 < j) fun i j => .int (i % j)) oMod := by
  intro x y dx dy d H Q rx ry e q
  cases dx with
  | int i =>
    cases dy with
    | int j =>
      unfold oMod at e
      dsimp only at e
      split at e
      · rename_i hc
        cases e
        exact ⟨i, j, dp_int rx, dp_int ry, hc, q _ H (Same.refl _) (.int _)⟩
      · cases e
    | _ => cases e
  | _ => cases e
theorem o2_div : Op2 K (rI CDiv fun i j => .int (i / j)) oDiv := by
  intro x y dx dy d H Q rx ry e q
  cases dx with
  | int i =>
    cases dy with
    | int j =>
      unfold oDiv at e
      dsimp only at e
      split at e
      · rename_i hc
        cases e
        exact ⟨i, j, dp_int rx, dp_int ry, hc, q _ H (Same.refl _) (.int _)⟩
      · cases e
    | _ => cases e
  | _ => cases e
theorem o2_eq : Op2 K (rEqD K) oEq := by
  intro x y dx dy d H Q rx ry e q
  unfold oEq at e
  split at e
  · rename_i hc
    cases e
    exact ⟨dx, dy, dpOld rx (lay_of_shaped hc.1), dpOld ry (lay_of_shaped hc.2), hc.1, hc.2, q _ H (Same.refl _) (.bl _)⟩
  · cases e
theorem o2_ne : Op2 K (rNeD K) oNe := by
  intro x y dx dy d H Q rx ry e q
  unfold oNe at e
  split at e
  · rename_i hc
    cases e
    exact ⟨dx, dy, dpOld rx (lay_of_shaped hc.1), dpOld ry (lay_of_shaped hc.2), hc.1, hc.2, q _ H (Same.refl _) (.bl _)⟩
  · cases e
theorem isN_of {H : Hp} {v : V} {d : PyData} (h : Dp K H v d) : decide (v = .non) = isN d := by
  cases h <;> simp [isN]
theorem o2_is : Op2 K (fun x y H Q => y = .non ∧ Q (.bl (decide (x = .non))) H) oIs := by
  intro x y dx dy d H Q rx ry e q
  unfold oIs at e
  split at e
  · rename_i hc
    cases e
    have ey : y = .non := of_decide_eq_true ((isN_of ry).trans hc)
    exact ⟨ey, q _ H (Same.refl _) (by rw [isN_of rx]; exact .bl _)⟩
  · cases e
theorem o2_isnot : Op2 K (fun x y H Q => y = .non ∧ Q (.bl (!decide (x = .non))) H) oIsNot := by
  intro x y dx dy d H Q rx ry e q
  unfold oIsNot at e
  split at e
  · rename_i hc
    cases e
    have ey : y = .non := of_decide_eq_true ((isN_of ry).trans hc)
    exact ⟨ey, q _ H (Same.refl _) (by rw [isN_of rx]; exact .bl _)⟩
  · cases e
theorem dp_tup {H : Hp} {v : V} {ds : List PyData} (h : Dp K H v (.tuple ds)) : ∃ a xs, v = .ref a ∧ SqT K H a xs ∧ DpAll K H xs ds := by
  cases h with
  | tup h1 h2 => exact ⟨_, _, rfl, h1.sqt, h2⟩
theorem dp_tupP {H : Hp} {v : V} {ds : List PyData} (h : Dp K H v (.tuple ds)) : ∃ a xs, v = .ref a ∧ PlT K H a xs ∧ DpAll K H xs ds := by
  cases h with
  | tup h1 h2 => exact ⟨_, _, rfl, h1, h2⟩
theorem dp_lst {H : Hp} {v : V} {ds : List PyData} (h : Dp K H v (.list ds)) : ∃ a xs, v = .ref a ∧ SqL K H a xs ∧ DpAll K H xs ds := by
  cases h with
  | lst h1 h2 => exact ⟨_, _, rfl, h1, h2⟩
theorem DpAll.nil_iff {H : Hp} {xs : List V} {ds : List PyData} (h : DpAll K H xs ds) : xs = [] ↔ ds = [] := by
  cases h <;> simp
/-- t + u: the new tuple's object is known -/
def rCatF (K : PySem.W.Frag) : R2 := fun x y H Q => ∃ a b xs ys, x = .ref a ∧ y = .ref b ∧ SqT K H a xs ∧ SqT K H b ys ∧ xs.length + ys.length ≤ sizeLine ∧
  (xs = [] → Q (.ref b) H) ∧ (xs ≠ [] → ys = [] → Q (.ref a) H) ∧ (xs ≠ [] → ys ≠ [] → ∀ (p : Addr) (o : Obj), o.dict = none → H p = none → Q (.ref p) (upd H p (.frz o (.tup (xs ++ ys)))))
theorem op_catF {X : Cx} : OpR X (binaryOp .Add) (rCatF X.K) := by
  intro pins s σ H x y v u Q I rx ry h
  obtain ⟨a, b, xs, ys, rfl, rfl, ha, hb, hz, q0, q1, q2⟩ := h
  cases rx
  cases ry
  obtain ⟨its, r1, p1, _⟩ := I.tuple ha
  obtain ⟨its2, r2, p2, _⟩ := I.tuple hb
  by_cases hx : xs = []
  · subst hx
    cases r1
    exact cat_tup0 p1 p2 ⟨.ref b, H, I, rfl, q0 rfl⟩
  · refine HT.cat_tup p1 p2 (fun z => hx (r1.nil_iff.mp z)) (fun z => ⟨.ref a, H, I, rfl, q1 hx (r2.nil_iff.mp z)⟩) (fun z => ?_) (by rw [← r1.length, ← r2.length]; exact hz)
    refine ⟨.ref s.heap.objs.size, _, I.laid (t' := s.toks) (o := .frz { cls := .type "tuple", data := .seq (its ++ its2).toArray } (.tup (xs ++ ys))) (fun b ob q => Heap.get?_push_of_some _ q) (Nat.le_refl _) ?_, rfl, q2 hx (fun w => z (r2.nil_iff.mpr w)) _ _ rfl (I.hok.fresh (Nat.le_refl _))⟩
    exact ⟨Heap.get?_push_size _ rfl, by rw [List.length_append]; exact hz, _, r1.append r2, IsTup.new _ _⟩
theorem o2_catT : Op2 K (rCatF K) oCatT := by
  intro x y dx dy d H Q rx ry e q
  cases dx with
  | tuple xs =>
    cases dy with
    | tuple ys =>
      unfold oCatT at e
      dsimp only at e
      split at e
      · rename_i hc
        cases e
        obtain ⟨a, vs, rfl, ha, hva⟩ := dp_tup rx
        obtain ⟨b, us, rfl, hb, hvb⟩ := dp_tup ry
        refine ⟨a, b, vs, us, rfl, rfl, ha, hb, ?_, fun e0 => ?_, fun e0 e1 => ?_, fun e0 e1 p o hdn hp => ?_⟩
        · rw [hva.len, hvb.len, sizeLine_eq]
          exact hc
        · have e1 : xs = [] := hva.nil_iff.mp e0
          subst e1
          exact q _ H (Same.refl _) (by simpa using ry)
        · have e2 : ys = [] := hvb.nil_iff.mp e1
          subst e2
          exact q _ H (Same.refl _) (by simpa using rx)
        · have s1 : Same H (upd H p (.frz o (.tup (vs ++ us)))) := sameUpd hp
          exact q _ _ s1 (.tup (.inl ⟨o, upd_same, hdn⟩) ((dpAllMono s1 hva).app (dpAllMono s1 hvb)))
      · cases e
    | _ => cases e
  | _ => cases e
theorem atI_dp {H : Hp} {vs : List V} {ds : List PyData} {i : Int} {d : PyData} (h : DpAll K H vs ds) (e : atI ds i = some d) : ∃ v, atI vs i = some v ∧ Dp K H v d := by
  unfold atI at e ⊢
  rw [h.len]
  cases e1 : ixN ds.length i with
  | none => rw [e1] at e; cases e
  | some j =>
    rw [e1] at e
    exact h.get e
theorem o2_ix : Op2 K (rIx K) oIx := by
  intro x y dx dy d H Q rx ry e q
  cases dy with
  | int i =>
    cases dx with
    | list ds =>
      obtain ⟨a, vs, rfl, ha, hva⟩ := dp_lst rx
      obtain ⟨v, h1, h2⟩ := atI_dp hva e
      exact .inl ⟨a, vs, i, v, rfl, dp_int ry, ha, h1, q v H (Same.refl _) h2⟩
    | tuple ds =>
      obtain ⟨a, vs, rfl, ha, hva⟩ := dp_tup rx
      obtain ⟨v, h1, h2⟩ := atI_dp hva e
      exact .inr (.inl ⟨a, vs, i, v, rfl, dp_int ry, ha, h1, q v H (Same.refl _) h2⟩)
    | _ => cases e
  | _ => cases dx <;> cases e
theorem o2_in : Op2 K (rInD K) oIn := by
  intro x y dx dy d H Q rx ry e q
  cases dy with
  | list ds =>
    unfold oIn at e
    dsimp only at e
    split at e
    · rename_i hc
      cases e
      exact ⟨dx, ds, dpOld rx (lay_of_shaped hc.1), dpOld ry (lay_of_shaped hc.2), hc.1, hc.2, q _ H (Same.refl _) (.bl _)⟩
    · cases e
  | _ => cases e
theorem o2_notin : Op2 K (rNotInD K) oNotIn := by
  intro x y dx dy d H Q rx ry e q
  cases dy with
  | list ds =>
    unfold oNotIn at e
    dsimp only at e
    split at e
    · rename_i hc
      cases e
      exact ⟨dx, ds, dpOld rx (lay_of_shaped hc.1), dpOld ry (lay_of_shaped hc.2), hc.1, hc.2, q _ H (Same.refl _) (.bl _)⟩
    · cases e
  | _ => cases e
/-- list + list -/
def rCatQ (K : PySem.W.Frag) : R2 := fun x y H Q => ∃ l b xs zs, x = .ref l ∧ y = .ref b ∧ SqL K H l xs ∧ SqL K H b zs ∧ xs.length + zs.length ≤ sizeLine ∧ ∀ p, H p = none → Q (.ref p) (upd H p (.lst (xs ++ zs)))
theorem op_catQ {X : Cx} : OpR X (binaryOp .Add) (rCatQ X.K) := by
  intro pins s σ H x y v u Q I rx ry h
  obtain ⟨l, b, xs, zs, rfl, rfl, hH, hB, hz, q⟩ := h
  cases rx
  cases ry
  obtain ⟨its, r, pl, _⟩ := I.list hH
  obtain ⟨its2, r2, pl2, _⟩ := I.list hB
  have hl1 := r.length
  have hl2 := r2.length
  obtain ⟨⟨cls, dd, data, sl⟩, n, ho, hc, _, hd⟩ := pl
  obtain ⟨⟨cls2, dd2, data2, sl2⟩, n2, ho2, hc2, _, hd2⟩ := pl2
  simp only at hc hd hc2 hd2
  subst hc hd hc2 hd2
  refine concat_meets ⟨_, ho, rfl⟩ ⟨_, ho2, rfl⟩ noFill_list_add seq_list_add PySem.F.slot_list_add PySem.F.entry_list_add (PySem.F.args_list_add_2 _ _) (list_addW l b its.toArray its2.toArray n n2 dd dd2 sl sl2 (by rw [List.size_toArray, List.size_toArray]; omega)) ⟨ho, ho2, ?_⟩
  have ea : its.toArray ++ its2.toArray = (its ++ its2).toArray := by simp
  rw [ea]
  exact ⟨.ref _, _, I.lnew (t' := s.toks) (r.append r2) (by rw [List.length_append]; omega), rfl, q _ I.fresh⟩
theorem o2_catL : Op2 K (rCatQ K) oCatL := by
  intro x y dx dy d H Q rx ry e q
  cases dx with
  | list xs =>
    cases dy with
    | list ys =>
      unfold oCatL at e
      dsimp only at e
      split at e
      · rename_i hc
        cases e
        obtain ⟨a, vs, rfl, ha, hva⟩ := dp_lst rx
        obtain ⟨b, us, rfl, hb, hvb⟩ := dp_lst ry
        refine ⟨a, b, vs, us, rfl, rfl, ha, hb, ?_, fun p hp => ?_⟩
        · rw [hva.len, hvb.len, sizeLine_eq]
          exact hc
        · have s1 : Same H (upd H p (.lst (vs ++ us))) := sameUpd hp
          exact q _ _ s1 (.lst (.inl (.inl upd_same)) ((dpAllMono s1 hva).app (dpAllMono s1 hvb)))
      · cases e
    | _ => cases e
  | _ => cases e
theorem o2_catS : Op2 K (fun x y H Q => ∃ i j, x = .str i ∧ y = .str j ∧ i.length + j.length ≤ sizeLine ∧ Q (.str (i ++ j)) H) oCatS := by
  intro x y dx dy d H Q rx ry e q
  cases dx with
  | str i =>
    cases dy with
    | str j =>
      unfold oCatS at e
      dsimp only at e
      split at e
      · rename_i hc
        cases e
        exact ⟨i, j, dp_str rx, dp_str ry, by rw [sizeLine_eq]; exact hc, q _ H (Same.refl _) (.str _)⟩
      · cases e
    | _ => cases e
  | _ => cases e
end
/-! the operators, short -/
section
variable {X : Cx} {W : WX} {a b : Expr} {fa fb : Ex} {pos : Pos} {k : Nat}
theorem d_add (ha : DE X W a fa) (hb : DE X W b fb) : DE X W (.BinOp a .Add b pos) (eOp oAdd fa fb) := d_op op_add o2_add ha hb
theorem d_sub (ha : DE X W a fa) (hb : DE X W b fb) : DE X W (.BinOp a .Sub b pos) (eOp oSub fa fb) := d_op op_sub o2_sub ha hb
theorem d_mul (ha : DE X W a fa) (hb : DE X W b fb) : DE X W (.BinOp a .Mult b pos) (eOp oMul fa fb) := d_op op_mul o2_mul ha hb
theorem d_mod (ha : DE X W a fa) (hb : DE X W b fb) : DE X W (.BinOp a .Mod b pos) (eOp oMod fa fb) := d_op op_mod o2_mod ha hb
theorem d_div (ha : DE X W a fa) (hb : DE X W b fb) : DE X W (.BinOp a .FloorDiv b pos) (eOp oDiv fa fb) := d_op op_fdiv o2_div ha hb
theorem d_catT (ha : DE X W a fa) (hb : DE X W b fb) : DE X W (.BinOp a .Add b pos) (eOp oCatT fa fb) := d_op op_catF o2_catT ha hb
theorem d_catL (ha : DE X W a fa) (hb : DE X W b fb) : DE X W (.BinOp a .Add b pos) (eOp oCatL fa fb) := d_op op_catQ o2_catL ha hb
theorem d_catS (ha : DE X W a fa) (hb : DE X W b fb) : DE X W (.BinOp a .Add b pos) (eOp oCatS fa fb) := d_op op_add_str o2_catS ha hb
theorem d_lt (ha : DE X W a fa) (hb : DE X W b fb) : DE X W (.Compare a [.Lt] [b] pos) (eOp oLt fa fb) := d_cmp op_lt o2_lt ha hb (nomark _)
theorem d_le (ha : DE X W a fa) (hb : DE X W b fb) : DE X W (.Compare a [.LtE] [b] pos) (eOp oLe fa fb) := d_cmp op_le o2_le ha hb (nomark _)
theorem d_gt (ha : DE X W a fa) (hb : DE X W b fb) : DE X W (.Compare a [.Gt] [b] pos) (eOp oGt fa fb) := d_cmp op_gt o2_gt ha hb (nomark _)
theorem d_ge (ha : DE X W a fa) (hb : DE X W b fb) : DE X W (.Compare a [.GtE] [b] pos) (eOp oGe fa fb) := d_cmp op_ge o2_ge ha hb (nomark _)
theorem d_eq (hu : X.A.units + 65 < cLine) (ha : DE X W a fa) (hb : DE X W b fb) : DE X W (.Compare a [.Eq] [b] pos) (eOp oEq fa fb) := d_cmp (op_eqD (Nat.lt_of_succ_lt hu)) o2_eq ha hb (nomark _)
theorem d_ne (hu : X.A.units + 65 < cLine) (ha : DE X W a fa) (hb : DE X W b fb) : DE X W (.Compare a [.NotEq] [b] pos) (eOp oNe fa fb) := d_cmp (op_neD (Nat.lt_of_succ_lt hu)) o2_ne ha hb (nomark _)
theorem d_is (ha : DE X W a fa) (hb : DE X W b fb) : DE X W (.Compare a [.Is] [b] pos) (eOp oIs fa fb) := d_cmp op_isN o2_is ha hb (nomark _)
theorem d_isnot (ha : DE X W a fa) (hb : DE X W b fb) : DE X W (.Compare a [.IsNot] [b] pos) (eOp oIsNot fa fb) := d_cmp op_notN o2_isnot ha hb (nomark _)
theorem d_in (hu : X.A.units + 65 < cLine) (ha : DE X W a fa) (hb : DE X W b fb) (hm : behindInMarks .In b = false := by with_unfolding_all rfl) : DE X W (.Compare a [.In] [b] pos) (eOp oIn fa fb) := d_cmp (op_inD hu) o2_in ha hb hm
theorem d_notin (hu : X.A.units + 65 < cLine) (ha : DE X W a fa) (hb : DE X W b fb) (hm : behindInMarks .NotIn b = false := by with_unfolding_all rfl) : DE X W (.Compare a [.NotIn] [b] pos) (eOp oNotIn fa fb) := d_cmp (op_notInD hu) o2_notin ha hb hm
theorem t_lt (ha : DE X W a fa) (hb : DE X W b fb) : DT X W (.Compare a [.Lt] [b] pos) (eB (eOp oLt fa fb)) := dt_cmp op_lt o2_lt ha hb (nomark _)
theorem t_le (ha : DE X W a fa) (hb : DE X W b fb) : DT X W (.Compare a [.LtE] [b] pos) (eB (eOp oLe fa fb)) := dt_cmp op_le o2_le ha hb (nomark _)
theorem t_gt (ha : DE X W a fa) (hb : DE X W b fb) : DT X W (.Compare a [.Gt] [b] pos) (eB (eOp oGt fa fb)) := dt_cmp op_gt o2_gt ha hb (nomark _)
theorem t_ge (ha : DE X W a fa) (hb : DE X W b fb) : DT X W (.Compare a [.GtE] [b] pos) (eB (eOp oGe fa fb)) := dt_cmp op_ge o2_ge ha hb (nomark _)
theorem t_eq (hu : X.A.units + 65 < cLine) (ha : DE X W a fa) (hb : DE X W b fb) : DT X W (.Compare a [.Eq] [b] pos) (eB (eOp oEq fa fb)) := dt_cmp (op_eqD (Nat.lt_of_succ_lt hu)) o2_eq ha hb (nomark _)
theorem t_ne (hu : X.A.units + 65 < cLine) (ha : DE X W a fa) (hb : DE X W b fb) : DT X W (.Compare a [.NotEq] [b] pos) (eB (eOp oNe fa fb)) := dt_cmp (op_neD (Nat.lt_of_succ_lt hu)) o2_ne ha hb (nomark _)
theorem t_is (ha : DE X W a fa) (hb : DE X W b fb) : DT X W (.Compare a [.Is] [b] pos) (eB (eOp oIs fa fb)) := dt_cmp op_isN o2_is ha hb (nomark _)
theorem t_isnot (ha : DE X W a fa) (hb : DE X W b fb) : DT X W (.Compare a [.IsNot] [b] pos) (eB (eOp oIsNot fa fb)) := dt_cmp op_notN o2_isnot ha hb (nomark _)
theorem t_in (hu : X.A.units + 65 < cLine) (ha : DE X W a fa) (hb : DE X W b fb) (hm : behindInMarks .In b = false := by with_unfolding_all rfl) : DT X W (.Compare a [.In] [b] pos) (eB (eOp oIn fa fb)) := dt_cmp (op_inD hu) o2_in ha hb hm
theorem t_notin (hu : X.A.units + 65 < cLine) (ha : DE X W a fa) (hb : DE X W b fb) (hm : behindInMarks .NotIn b = false := by with_unfolding_all rfl) : DT X W (.Compare a [.NotIn] [b] pos) (eB (eOp oNotIn fa fb)) := dt_cmp (op_notInD hu) o2_notin ha hb hm
theorem hu65 {A : Around} (hr : Room k A) : A.units + 65 < cLine := by have := hr.un; omega
/-- xs[i] -/
theorem d_ix (ha : DE X W a fa) (hb : DE X W b fb) (hs : PlainIx b := by exact fun _ _ => rfl) : DE X W (.Subscript a b pos) (eOp oIx fa fb) := peImp (pe_ix ix_seq ha hb hs) fun _ _ _ h => tOp_of o2_ix h
/-- -a -/
def eUn (op : PyData → Option PyData) (f : Ex) : Ex := fun ρ => (f ρ).bind fun x => Res.of (op x)
def oNeg : PyData → Option PyData
  | .int i => some (.int (-i))
  | _ => none
theorem d_neg (ha : DE X W a fa) : DE X W (.UnaryOp .USub a pos) (eUn oNeg fa) := by
  refine peImp (pe_un un_neg ha) fun σ H Q h => ?_
  obtain ⟨ρ, hρ, h⟩ := h
  refine ⟨ρ, hρ, (Post.bind h).imp fun v H1 _ ⟨d, _, s1, rx, h1⟩ => ?_⟩
  cases d with
  | int i => exact ⟨i, dp_int rx, h1 _ H1 (Same.refl _) (.int _)⟩
  | _ => exact h1.elim
end
end L2.DL
set_option maxHeartbeats 2000000
namespace L2.DL
open PySem PySem.Spec PyProof.Rows

/-! ### argument lists, displays -/
def aNil : Ar := fun _ => .ok []
def aCons (f : Ex) (g : Ar) : Ar := fun ρ => (f ρ).bind fun x => (g ρ).bind fun xs => .ok (x :: xs)
def eTup (f : Ar) : Ex := fun ρ => (f ρ).bind fun xs => if xs.length ≤ 16777216 then .ok (.tuple xs) else .bad
def eLst (f : Ar) : Ex := fun ρ => (f ρ).bind fun xs => if xs.length ≤ 16777216 then .ok (.list xs) else .bad
section
variable {X : Cx} {W : WX} {a e : Expr} {es : List Expr} {f : Ex} {g : Ar} {pos : Pos}
theorem a_nil : DA X W [] aNil := paImp pa_nil fun σ H Q ⟨ρ, _, h⟩ => h [] H rfl (Same.refl _) .nil
theorem a_cons (ha : DE X W e f) (hr : DA X W es g) (hs : starEach (e :: es) X.env = (false, eval e X.env) :: starEach es X.env := by rfl) : DA X W (e :: es) (aCons f g) := by
  refine paImp (pa_cons ha hr hs) fun σ H Q h => ?_
  obtain ⟨ρ, hρ, h⟩ := h
  refine ⟨ρ, hρ, (Post.bindA h).imp fun v H1 _ ⟨d, _, s1, rx, h1⟩ => ⟨ρ, hρ.mono s1, (PostA.bindA h1).imp fun vs H2 _ ⟨ds, _, hl, s2, r2, h2⟩ => ?_⟩⟩
  exact h2 (v :: vs) H2 (congrArg (· + 1) hl) (Same.refl _) (.cons (dpMono s2 rx) r2)
/-- a written tuple: its object is known -/
def tTupF (t : TA) : TE := fun σ H Q => t σ H fun xs H1 => xs.length ≤ sizeLine ∧ ∀ (p : Addr) (o : Obj), o.dict = none → H1 p = none → Q (.ref p) (upd H1 p (.frz o (.tup xs)))
theorem pe_tupF {x1} {t : TA} (h : PA X es t) : PE X (.Tuple es x1 pos) (tTupF t) := by
  refine ⟨fun pins s σ H Q I hq => ?_⟩
  refine wpAny_Tuple_spliced (thn (h.run pos pins s σ H _ I hq) fun us s1 ⟨xs, H1, I1, r, z, q⟩ => ⟨by rw [← r.length]; exact z, ?_⟩)
  refine ⟨.ref s1.heap.objs.size, _, I1.laid (t' := s1.toks) (o := .frz { cls := .type "tuple", data := .seq us.toArray } (.tup xs)) (fun b u e => Heap.get?_push_of_some _ e) (Nat.le_refl _) ?_, rfl, q _ _ rfl (I1.hok.fresh (Nat.le_refl _))⟩
  exact ⟨Heap.get?_push_size _ rfl, z, us, r, ⟨_, Heap.get?_push_size _ rfl, rfl, _, rfl⟩⟩
theorem d_tup {x1} (h : DA X W es g) : DE X W (.Tuple es x1 pos) (eTup g) := by
  refine peImp (pe_tupF h) fun σ H Q h => ?_
  obtain ⟨ρ, hρ, h⟩ := h
  refine ⟨ρ, hρ, (PostA.bind h).imp fun vs H2 _ ⟨ds, _, hl, s2, r2, h3⟩ => ?_⟩
  by_cases hl : ds.length ≤ 16777216
  · rw [if_pos hl] at h3
    exact ⟨by rw [r2.len, sizeLine_eq]; exact hl, fun p o hdn hp => h3 _ _ (sameUpd hp) (.tup (.inl ⟨o, upd_same, hdn⟩) (dpAllMono (sameUpd hp) r2))⟩
  · rw [if_neg hl] at h3
    exact h3.elim
theorem d_lst (h : DA X W es g) : DE X W (.List es pos) (eLst g) := by
  refine peImp (pe_lst h) fun σ H Q h => ?_
  obtain ⟨ρ, hρ, h⟩ := h
  refine ⟨ρ, hρ, (PostA.bind h).imp fun vs H2 _ ⟨ds, _, hl, s2, r2, h3⟩ => ?_⟩
  by_cases hl : ds.length ≤ 16777216
  · rw [if_pos hl] at h3
    exact ⟨by rw [r2.len, sizeLine_eq]; exact hl, fun p hp => h3 _ _ (sameUpd hp) (.lst (.inl (.inl upd_same)) (dpAllMono (sameUpd hp) r2))⟩
  · rw [if_neg hl] at h3
    exact h3.elim
end

/-! ### calls of the text's defs -/
def eCall (fn : List PyData → Res PyData) (args : Ar) : Ex := fun ρ => (args ρ).bind fn
/-- a def of n parameters that does fn -/
def spD (K : PySem.W.Frag) (mg : Str → Option Value) (n : Nat) (fn : List PyData → Res PyData) : Sp := fun vs H Q E => vs.length = n ∧ ∃ ds, DpAll K H vs ds ∧ match fn ds with
  | .ok d => ∀ v H', Same H H' → Dp K H' v d → Q v H'
  | .err c => ∃ C, mg c = some (.ref C) ∧ ∀ (d : D0) H', Same H H' → E (.ref C) d H'
  | .bad => False
structure Df (P : Program) (w : World) (K : PySem.W.Frag) (mg : Str → Option Value) (base : Heap) (x : Str) (k n : Nat) (fn : List PyData → Res PyData) : Prop where
  ex : ∃ (f : Addr) (fd : FuncData) (ps : List Str), FnOk P w K mg base (L2.CX P w) k f fd ps (spD K mg n fn) ∧ mg x = some (.ref f) ∧ PySem.W.keepIn K (.ref f) = true ∧ Binds K fd ps []
theorem Df.mono {P : Program} {w : World} {K : PySem.W.Frag} {mg : Str → Option Value} {base : Heap} {x : Str} {j k n : Nat} {fn : List PyData → Res PyData} (F : Df P w K mg base x j n fn) (h : j ≤ k) : Df P w K mg base x k n fn := by
  obtain ⟨f, fd, ps, h1, h2⟩ := F.ex
  exact ⟨f, fd, ps, h1.mono h, h2⟩
section
variable {X : Cx} {W : WX} {e : Expr} {es : List Expr} {g : Ar} {p pos : Pos} {x : Str} {k n : Nat} {fn : List PyData → Res PyData}
theorem d_call (F : Df X.prog X.w X.K X.mg X.base x k n fn) (hr : Room k X.A) (tk : Takes X W) (ha : DA X W (e :: es) g) (hn : (e :: es).length = n := by rfl) (hg : Gl X x := by rfl)
    (hdb : (x == ("__debug__" : Str)) = false := by decide) (he : starEach (e :: es) X.env = (false, eval e X.env) :: starEach es X.env := by rfl) (hpl : (backTo pos (starEach es X.env)).any (·.1) = false := by rfl) :
    DE X W (.Call (.Name x p) (e :: es) [] pos) (eCall fn g) := by
  obtain ⟨f, fd, ps, h1, hm, hk, hb⟩ := F.ex
  refine peImp (pe_callS (E := WE W) h1 hr hg hm hk hb (fun σ => passAt tk σ) ha hdb he hpl) fun σ H Q h => ?_
  obtain ⟨ρ, hρ, h⟩ := h
  refine ⟨ρ, hρ, (PostA.bind h).imp fun vs H2 _ ⟨ds, _, hl, s2, r2, h3⟩ => ⟨hl.trans hn, ds, r2, ?_⟩⟩
  cases e2 : fn ds with
  | ok d => rw [e2] at h3; exact h3
  | err c => rw [e2] at h3; exact h3
  | bad => rw [e2] at h3; exact h3

/-! ### built-ins by their name -/
def eCall1 (op : PyData → Option PyData) (f : Ex) : Ex := fun ρ => (f ρ).bind fun x => Res.of (op x)
def eCall2 (op : PyData → PyData → Option PyData) (f g : Ex) : Ex := fun ρ => (f ρ).bind fun x => (g ρ).bind fun y => Res.of (op x y)
def Op1 (K : PySem.W.Frag) (r : List V → Hp → VK → Prop) (op : PyData → Option PyData) : Prop := ∀ (x : V) (dx d : PyData) (H : Hp) (Q : VK), Dp K H x dx → op dx = some d → (∀ v H', Same H H' → Dp K H' v d → Q v H') → r [x] H Q
def OpA2 (K : PySem.W.Frag) (r : List V → Hp → VK → Prop) (op : PyData → PyData → Option PyData) : Prop := ∀ (x y : V) (dx dy d : PyData) (H : Hp) (Q : VK), Dp K H x dx → Dp K H y dy → op dx dy = some d → (∀ v H', Same H H' → Dp K H' v d → Q v H') → r [x, y] H Q
section
variable {a b : Expr} {fa fb : Ex} {r : List V → Hp → VK → Prop}
theorem tCB1 {op : PyData → Option PyData} (hr : Op1 X.K r op) {σ : St} {H : Hp} {Q : VK} (h : tD X.K X.mg W (eCall1 op fa) σ H Q) : tCB r (tCons (tD X.K X.mg W fa) tNil) σ H Q := by
  obtain ⟨ρ, hρ, h⟩ := h
  refine ⟨ρ, hρ, (Post.bind h).imp fun v H1 _ ⟨dx, _, s1, rx, h1⟩ => ?_⟩
  cases e : op dx with
  | none => rw [e] at h1; exact h1.elim
  | some d => rw [e] at h1; exact hr v dx d H1 Q rx e h1
theorem tCB2 {op : PyData → PyData → Option PyData} (hr : OpA2 X.K r op) {σ : St} {H : Hp} {Q : VK} (h : tD X.K X.mg W (eCall2 op fa fb) σ H Q) : tCB r (tCons (tD X.K X.mg W fa) (tCons (tD X.K X.mg W fb) tNil)) σ H Q := by
  obtain ⟨ρ, hρ, h⟩ := h
  refine ⟨ρ, hρ, (Post.bind h).imp fun v H1 _ ⟨dx, _, s1, rx, h1⟩ => ⟨ρ, hρ.mono s1, (Post.bind h1).imp fun u H2 _ ⟨dy, _, s2, ry, h2⟩ => ?_⟩⟩
  cases e : op dx dy with
  | none => rw [e] at h2; exact h2.elim
  | some d => rw [e] at h2; exact hr v u dx dy d H2 Q (dpMono s2 rx) ry e h2
theorem d_b1 {id : String} {op : PyData → Option PyData} (hc : CallR X (.builtin id) r) (hr : Op1 X.K r op) (hm : X.mg x = none) (ha : DE X W a fa) (hg : Gl X x := by rfl) (hv : bootBuiltins x = some (.builtin id) := by decide +kernel) (hn : x ≠ "__name__" := by decide)
    (hdb : (x == ("__debug__" : Str)) = false := by decide) (hs : starEach [a] X.env = (false, eval a X.env) :: starEach [] X.env := by rfl) (hpl : (backTo pos (starEach [] X.env)).any (·.1) = false := by rfl) :
    DE X W (.Call (.Name x p) [a] [] pos) (eCall1 op fa) := peImp (pe_callB hc hg hm hv (pa_cons ha pa_nil hs) hn hdb hs hpl) fun _ _ _ h => tCB1 hr h
theorem d_t1 {id : String} {op : PyData → Option PyData} (hc : CallR X (.type id) r) (hr : Op1 X.K r op) (hm : X.mg x = none) (ha : DE X W a fa) (hg : Gl X x := by rfl) (hv : bootBuiltins x = some (.type id) := by decide +kernel) (hn : x ≠ "__name__" := by decide)
    (hdb : (x == ("__debug__" : Str)) = false := by decide) (hs : starEach [a] X.env = (false, eval a X.env) :: starEach [] X.env := by rfl) (hpl : (backTo pos (starEach [] X.env)).any (·.1) = false := by rfl) :
    DE X W (.Call (.Name x p) [a] [] pos) (eCall1 op fa) := peImp (pe_callTy hc hg hm hv (pa_cons ha pa_nil hs) hn hdb hs hpl) fun _ _ _ h => tCB1 hr h
theorem d_b2 {id : String} {op : PyData → PyData → Option PyData} (hc : CallR X (.builtin id) r) (hr : OpA2 X.K r op) (hm : X.mg x = none) (ha : DE X W a fa) (hb : DE X W b fb) (hg : Gl X x := by rfl) (hv : bootBuiltins x = some (.builtin id) := by decide +kernel) (hn : x ≠ "__name__" := by decide)
    (hdb : (x == ("__debug__" : Str)) = false := by decide) (hs : starEach [a, b] X.env = (false, eval a X.env) :: starEach [b] X.env := by rfl) (hs2 : starEach [b] X.env = (false, eval b X.env) :: starEach [] X.env := by rfl) (hpl : (backTo pos (starEach [b] X.env)).any (·.1) = false := by rfl) :
    DE X W (.Call (.Name x p) [a, b] [] pos) (eCall2 op fa fb) := peImp (pe_callB hc hg hm hv (pa_cons ha (pa_cons hb pa_nil hs2) hs) hn hdb hs hpl) fun _ _ _ h => tCB2 hr h
end

/-! len, min, max, abs, int, tuple, list, sum, all, any, sorted -/
def oLen : PyData → Option PyData
  | .list xs => some (.int (xs.length : Int))
  | .tuple xs => some (.int (xs.length : Int))
  | .str x => if x.length ≤ 16777216 then some (.int (x.length : Int)) else none
  | _ => none
def oMin : PyData → PyData → Option PyData := oI fun i j => .int (if j < i then j else i)
def oMax : PyData → PyData → Option PyData := oI fun i j => .int (if j > i then j else i)
def oAbs : PyData → Option PyData
  | .int i => some (.int (if i < 0 then -i else i))
  | _ => none
def oInt : PyData → Option PyData
  | .int i => some (.int i)
  | .bool b => some (.int (if b then 1 else 0))
  | _ => none
def oTuple : PyData → Option PyData
  | .list xs => some (.tuple xs)
  | .tuple xs => some (.tuple xs)
  | _ => none
def oList : PyData → Option PyData
  | .list xs => some (.list xs)
  | .tuple xs => some (.list xs)
  | _ => none
def toInts : List PyData → Option (List Int)
  | [] => some []
  | .int i :: r => (toInts r).map (i :: ·)
  | _ => none
def toBools : List PyData → Option (List Bool)
  | [] => some []
  | .bool i :: r => (toBools r).map (i :: ·)
  | _ => none
def oSum : PyData → Option PyData
  | .list xs => (toInts xs).map fun ns => .int ns.sum
  | _ => none
def oAll : PyData → Option PyData
  | .list xs => (toBools xs).map fun bs => .bool (bs.all id)
  | _ => none
def oAny : PyData → Option PyData
  | .list xs => (toBools xs).map fun bs => .bool (bs.any id)
  | _ => none
/-- the least of a list of ints, as python finds it -/
def minI : List Int → Int
  | [] => 0
  | x :: r => r.foldl min x
def maxI : List Int → Int
  | [] => 0
  | x :: r => r.foldl max x
def oMinL : PyData → Option PyData
  | .list xs => (toInts xs).bind fun ns => if ns = [] then none else some (.int (minI ns))
  | _ => none
def oMaxL : PyData → Option PyData
  | .list xs => (toInts xs).bind fun ns => if ns = [] then none else some (.int (maxI ns))
  | _ => none
/-- rising, by insertion -/
def insI (x : Int) : List Int → List Int
  | [] => [x]
  | y :: r => if x ≤ y then x :: y :: r else y :: insI x r
def sortI (ns : List Int) : List Int := ns.foldr insI []
def oSorted : PyData → Option PyData
  | .list xs => (toInts xs).bind fun ns => if ns.length < 64 then some (.list ((sortI ns).map .int)) else none
  | .tuple xs => (toInts xs).bind fun ns => if ns.length < 64 then some (.list ((sortI ns).map .int)) else none
  | _ => none
section
variable {K : PySem.W.Frag} {H : Hp}
theorem dp_ints : ∀ {ds : List PyData} {vs : List V} {ns : List Int}, DpAll K H vs ds → toInts ds = some ns → vs = ns.map V.int
  | [], _, _, h, e => by
    cases h
    cases e
    rfl
  | d :: r, _, ns, h, e => by
    cases h with
    | cons h1 h2 =>
      cases d with
      | int i =>
        unfold toInts at e
        cases e1 : toInts r with
        | none => rw [e1] at e; cases e
        | some ms =>
          rw [e1] at e
          cases e
          rw [dp_int h1, dp_ints h2 e1]
          rfl
      | _ => cases e
theorem dp_bools : ∀ {ds : List PyData} {vs : List V} {ns : List Bool}, DpAll K H vs ds → toBools ds = some ns → vs = ns.map V.bl
  | [], _, _, h, e => by
    cases h
    cases e
    rfl
  | d :: r, _, ns, h, e => by
    cases h with
    | cons h1 h2 =>
      cases d with
      | bool i =>
        unfold toBools at e
        cases e1 : toBools r with
        | none => rw [e1] at e; cases e
        | some ms =>
          rw [e1] at e
          cases e
          rw [dp_bool h1, dp_bools h2 e1]
          rfl
      | _ => cases e
theorem of_ints : ∀ (ns : List Int), DpAll K H (ns.map V.int) (ns.map PyData.int)
  | [] => .nil
  | _ :: r => .cons (.int _) (of_ints r)
@[simp] theorem toInts_map : ∀ ns : List Int, toInts (ns.map PyData.int) = some ns
  | [] => rfl
  | n :: r => by
    show (toInts (r.map PyData.int)).map (n :: ·) = _
    rw [toInts_map r]
    rfl
@[simp] theorem toBools_map : ∀ ns : List Bool, toBools (ns.map PyData.bool) = some ns
  | [] => rfl
  | n :: r => by
    show (toBools (r.map PyData.bool)).map (n :: ·) = _
    rw [toBools_map r]
    rfl
/-- tuple(x): the new tuple's object is known -/
def rTupF (K : PySem.W.Frag) : List V → Hp → VK → Prop := fun xs H Q => ∃ p ys, xs = [.ref p] ∧ ((SqL K H p ys ∧ ∀ (l : Addr) (o : Obj), o.dict = none → H l = none → Q (.ref l) (upd H l (.frz o (.tup ys)))) ∨ (SqT K H p ys ∧ Q (.ref p) H))
theorem call_tupF {X : Cx} : CallR X (.type "tuple") (rTupF X.K) := by
  intro pins s σ H xs us Q I r h
  obtain ⟨p, ys, rfl, h⟩ := h
  obtain ⟨u, rfl, rx⟩ := vals1 r
  cases rx
  rcases h with ⟨hq, q⟩ | ⟨hq, q⟩
  · obtain ⟨its, r', pl, hz⟩ := I.list hq
    have hlen := r'.length
    refine call_tuple_list pl.isList (fun h' kp => ?_) (by simp only [List.size_toArray] <;> omega)
    have I1 : Inv X pins σ H { s with heap := h' } := I.kept (t' := s.toks) kp
    have I2 : Inv X pins σ (upd H h'.objs.size (.frz { cls := .type "tuple", data := .seq its.toArray } (.tup ys))) { s with heap := h'.push { cls := .type "tuple", data := .seq its.toArray } } :=
      I1.laid (t' := s.toks) (fun b o e => Heap.get?_push_of_some _ e) (Nat.le_refl _) (show ObjOk X.prog X.w _ _ _ (.frz _ (.tup ys)) from ⟨Heap.get?_push_size _ rfl, hz, its, r', IsTup.new _ _⟩)
    exact ⟨.ref h'.objs.size, _, I2, rfl, q _ _ rfl (I1.hok.fresh (Nat.le_refl _))⟩
  · obtain ⟨its, r', pl, hz⟩ := I.tuple hq
    exact call_tuple_same pl ⟨.ref p, H, I, rfl, q⟩
theorem o1_len : Op1 K (fun xs H Q => ∃ x n, xs = [x] ∧ LenV K x H n ∧ Q (.int n) H) oLen := by
  intro x dx d H Q rx e q
  cases dx with
  | list ds =>
    cases e
    obtain ⟨a, vs, rfl, ha, hva⟩ := dp_lst rx
    exact ⟨_, ds.length, rfl, .inl ⟨vs, ha, hva.len.symm⟩, q _ H (Same.refl _) (.int _)⟩
  | tuple ds =>
    cases e
    obtain ⟨a, vs, rfl, ha, hva⟩ := dp_tup rx
    exact ⟨_, ds.length, rfl, .inr ⟨vs, ha, hva.len.symm⟩, q _ H (Same.refl _) (.int _)⟩
  | str z =>
    unfold oLen at e
    dsimp only at e
    split at e
    · rename_i hc
      cases e
      rw [dp_str rx]
      exact ⟨_, z.length, rfl, ⟨by rw [sizeLine_eq]; exact hc, rfl⟩, q _ H (Same.refl _) (.int _)⟩
    · cases e
  | _ => cases e
theorem oa2I {g : Int → Int → V} {g' : Int → Int → PyData} (hg : ∀ i j H, Dp K H (g i j) (g' i j)) : OpA2 K (fun xs H Q => ∃ i j, xs = [.int i, .int j] ∧ Q (g i j) H) (oI g') := by
  intro x y dx dy d H Q rx ry e q
  cases dx with
  | int i =>
    cases dy with
    | int j =>
      cases e
      exact ⟨i, j, by rw [dp_int rx, dp_int ry], q _ H (Same.refl _) (hg i j H)⟩
    | _ => cases e
  | _ => cases e
theorem o2_min : OpA2 K (fun xs H Q => ∃ i j, xs = [.int i, .int j] ∧ Q (.int (if j < i then j else i)) H) oMin := oa2I fun _ _ _ => .int _
theorem o2_max : OpA2 K (fun xs H Q => ∃ i j, xs = [.int i, .int j] ∧ Q (.int (if j > i then j else i)) H) oMax := oa2I fun _ _ _ => .int _
theorem o1_abs : Op1 K (fun xs H Q => ∃ i, xs = [.int i] ∧ Q (.int (if i < 0 then -i else i)) H) oAbs := by
  intro x dx d H Q rx e q
  cases dx with
  | int i =>
    cases e
    exact ⟨i, by rw [dp_int rx], q _ H (Same.refl _) (.int _)⟩
  | _ => cases e
theorem o1_int : Op1 K (fun xs H Q => (∃ i, xs = [.int i] ∧ Q (.int i) H) ∨ ∃ k, xs = [.bl k] ∧ Q (.int (if k then 1 else 0)) H) oInt := by
  intro x dx d H Q rx e q
  cases dx with
  | int i =>
    cases e
    exact .inl ⟨i, by rw [dp_int rx], q _ H (Same.refl _) (.int _)⟩
  | bool b =>
    cases e
    exact .inr ⟨b, by rw [dp_bool rx], q _ H (Same.refl _) (.int _)⟩
  | _ => cases e
theorem o1_tuple : Op1 K (rTupF K) oTuple := by
  intro x dx d H Q rx e q
  cases dx with
  | list ds =>
    cases e
    obtain ⟨a, vs, rfl, ha, hva⟩ := dp_lst rx
    exact ⟨a, vs, rfl, .inl ⟨ha, fun l o hdn hl => q _ _ (sameUpd hl) (.tup (.inl ⟨o, upd_same, hdn⟩) (dpAllMono (sameUpd hl) hva))⟩⟩
  | tuple ds =>
    cases e
    obtain ⟨a, vs, rfl, ha, hva⟩ := dp_tup rx
    exact ⟨a, vs, rfl, .inr ⟨ha, q _ H (Same.refl _) rx⟩⟩
  | _ => cases e
theorem o1_list : Op1 K (fun xs H Q => ∃ p ys, xs = [.ref p] ∧ (SqL K H p ys ∨ SqT K H p ys) ∧ ∀ l, H l = none → Q (.ref l) (upd H l (.lst ys))) oList := by
  intro x dx d H Q rx e q
  cases dx with
  | list ds =>
    cases e
    obtain ⟨a, vs, rfl, ha, hva⟩ := dp_lst rx
    exact ⟨a, vs, rfl, .inl ha, fun l hl => q _ _ (sameUpd hl) (.lst (.inl (.inl upd_same)) (dpAllMono (sameUpd hl) hva))⟩
  | tuple ds =>
    cases e
    obtain ⟨a, vs, rfl, ha, hva⟩ := dp_tup rx
    exact ⟨a, vs, rfl, .inr ha, fun l hl => q _ _ (sameUpd hl) (.lst (.inl (.inl upd_same)) (dpAllMono (sameUpd hl) hva))⟩
  | _ => cases e
theorem o1_sum : Op1 K (rSum K) oSum := by
  intro x dx d H Q rx e q
  cases dx with
  | list ds =>
    obtain ⟨a, vs, rfl, ha, hva⟩ := dp_lst rx
    unfold oSum at e
    cases e1 : toInts ds with
    | none => simp only [e1] at e; cases e
    | some ns =>
      simp only [e1] at e
      cases e
      rw [dp_ints hva e1] at ha
      exact ⟨a, ns, rfl, ha, q _ H (Same.refl _) (.int _)⟩
  | _ => cases e
theorem o1_all : Op1 K (rAll K) oAll := by
  intro x dx d H Q rx e q
  cases dx with
  | list ds =>
    obtain ⟨a, vs, rfl, ha, hva⟩ := dp_lst rx
    unfold oAll at e
    cases e1 : toBools ds with
    | none => simp only [e1] at e; cases e
    | some ns =>
      simp only [e1] at e
      cases e
      rw [dp_bools hva e1] at ha
      exact ⟨a, ns, rfl, ha, q _ H (Same.refl _) (.bl _)⟩
  | _ => cases e
theorem o1_any : Op1 K (rAny K) oAny := by
  intro x dx d H Q rx e q
  cases dx with
  | list ds =>
    obtain ⟨a, vs, rfl, ha, hva⟩ := dp_lst rx
    unfold oAny at e
    cases e1 : toBools ds with
    | none => simp only [e1] at e; cases e
    | some ns =>
      simp only [e1] at e
      cases e
      rw [dp_bools hva e1] at ha
      exact ⟨a, ns, rfl, ha, q _ H (Same.refl _) (.bl _)⟩
  | _ => cases e
theorem foldl_min_le : ∀ (r : List Int) (x : Int), r.foldl min x ≤ x ∧ (∀ y ∈ r, r.foldl min x ≤ y) ∧ (r.foldl min x = x ∨ r.foldl min x ∈ r)
  | [], x => ⟨Int.le_refl _, (fun y h => by cases h), .inl rfl⟩
  | z :: r, x => by
    obtain ⟨h1, h2, h3⟩ := foldl_min_le r (min x z)
    rw [List.foldl_cons]
    refine ⟨by omega, fun y hy => ?_, ?_⟩
    · rcases List.mem_cons.mp hy with rfl | hy
      · omega
      · exact h2 y hy
    · rcases h3 with h3 | h3
      · by_cases hxz : x ≤ z
        · exact .inl (by omega)
        · exact .inr (by rw [h3]; exact List.mem_cons.mpr (.inl (by omega)))
      · exact .inr (List.mem_cons_of_mem _ h3)
theorem foldl_max_le : ∀ (r : List Int) (x : Int), x ≤ r.foldl max x ∧ (∀ y ∈ r, y ≤ r.foldl max x) ∧ (r.foldl max x = x ∨ r.foldl max x ∈ r)
  | [], x => ⟨Int.le_refl _, (fun y h => by cases h), .inl rfl⟩
  | z :: r, x => by
    obtain ⟨h1, h2, h3⟩ := foldl_max_le r (max x z)
    rw [List.foldl_cons]
    refine ⟨by omega, fun y hy => ?_, ?_⟩
    · rcases List.mem_cons.mp hy with rfl | hy
      · omega
      · exact h2 y hy
    · rcases h3 with h3 | h3
      · by_cases hxz : z ≤ x
        · exact .inl (by omega)
        · exact .inr (by rw [h3]; exact List.mem_cons.mpr (.inl (by omega)))
      · exact .inr (List.mem_cons_of_mem _ h3)
theorem minI_spec {ns : List Int} (h : ns ≠ []) : minI ns ∈ ns ∧ ∀ y ∈ ns, minI ns ≤ y := by
  cases ns with
  | nil => exact absurd rfl h
  | cons x r =>
    obtain ⟨h1, h2, h3⟩ := foldl_min_le r x
    refine ⟨?_, fun y hy => ?_⟩
    · rcases h3 with h3 | h3
      · exact List.mem_cons.mpr (.inl h3)
      · exact List.mem_cons_of_mem _ h3
    · rcases List.mem_cons.mp hy with rfl | hy
      · exact h1
      · exact h2 y hy
theorem maxI_spec {ns : List Int} (h : ns ≠ []) : maxI ns ∈ ns ∧ ∀ y ∈ ns, y ≤ maxI ns := by
  cases ns with
  | nil => exact absurd rfl h
  | cons x r =>
    obtain ⟨h1, h2, h3⟩ := foldl_max_le r x
    refine ⟨?_, fun y hy => ?_⟩
    · rcases h3 with h3 | h3
      · exact List.mem_cons.mpr (.inl h3)
      · exact List.mem_cons_of_mem _ h3
    · rcases List.mem_cons.mp hy with rfl | hy
      · exact h1
      · exact h2 y hy
theorem o1_minL : Op1 K (rMin K) oMinL := by
  intro x dx d H Q rx e q
  cases dx with
  | list ds =>
    obtain ⟨a, vs, rfl, ha, hva⟩ := dp_lst rx
    unfold oMinL at e
    cases e1 : toInts ds with
    | none => simp only [e1] at e; cases e
    | some ns =>
      simp only [e1, Option.bind_some] at e
      split at e
      · cases e
      · rename_i hne
        cases e
        rw [dp_ints hva e1] at ha
        refine ⟨a, ns, rfl, ha, List.length_pos_iff.mpr hne, fun m hm hle => ?_⟩
        obtain ⟨g1, g2⟩ := minI_spec hne
        have e2 : minI ns = m := Int.le_antisymm (g2 m hm) (hle _ g1)
        exact q _ H (Same.refl _) (by rw [e2]; exact .int _)
  | _ => cases e
theorem o1_maxL : Op1 K (rMax K) oMaxL := by
  intro x dx d H Q rx e q
  cases dx with
  | list ds =>
    obtain ⟨a, vs, rfl, ha, hva⟩ := dp_lst rx
    unfold oMaxL at e
    cases e1 : toInts ds with
    | none => simp only [e1] at e; cases e
    | some ns =>
      simp only [e1, Option.bind_some] at e
      split at e
      · cases e
      · rename_i hne
        cases e
        rw [dp_ints hva e1] at ha
        refine ⟨a, ns, rfl, ha, List.length_pos_iff.mpr hne, fun m hm hle => ?_⟩
        obtain ⟨g1, g2⟩ := maxI_spec hne
        have e2 : maxI ns = m := Int.le_antisymm (hle _ g1) (g2 m hm)
        exact q _ H (Same.refl _) (by rw [e2]; exact .int _)
  | _ => cases e
theorem insI_perm (x : Int) : ∀ l : List Int, (insI x l).Perm (x :: l)
  | [] => .refl _
  | y :: r => by
    unfold insI
    split
    · exact .refl _
    · exact ((insI_perm x r).cons y).trans (.swap x y r)
theorem insI_mem {x z : Int} {l : List Int} (h : z ∈ insI x l) : z = x ∨ z ∈ l := List.mem_cons.mp ((insI_perm x l).mem_iff.mp h)
theorem insI_rise (x : Int) : ∀ l : List Int, l.Pairwise (· ≤ ·) → (insI x l).Pairwise (· ≤ ·)
  | [], _ => by simp [insI]
  | y :: r, h => by
    rw [List.pairwise_cons] at h
    unfold insI
    split
    · rename_i hxy
      refine List.pairwise_cons.mpr ⟨fun z hz => ?_, List.pairwise_cons.mpr h⟩
      rcases List.mem_cons.mp hz with rfl | hz
      · exact hxy
      · exact Int.le_trans hxy (h.1 z hz)
    · rename_i hxy
      refine List.pairwise_cons.mpr ⟨fun z hz => ?_, insI_rise x r h.2⟩
      rcases insI_mem hz with rfl | hz
      · omega
      · exact h.1 z hz
theorem sortI_perm : ∀ l : List Int, (sortI l).Perm l
  | [] => .refl _
  | x :: r => (insI_perm x _).trans ((sortI_perm r).cons x)
theorem sortI_rise : ∀ l : List Int, (sortI l).Pairwise (· ≤ ·)
  | [] => .nil
  | x :: r => insI_rise x _ (sortI_rise r)
theorem rise_one : ∀ {l m : List Int}, l.Perm m → l.Pairwise (· ≤ ·) → m.Pairwise (· ≤ ·) → l = m
  | [], m, p, _, _ => (List.nil_perm.mp p).symm
  | x :: r, [], p, _, _ => by simpa using p.length_eq
  | x :: r, y :: t, p, h, g => by
    rw [List.pairwise_cons] at h g
    have hx : x ∈ y :: t := p.mem_iff.mp List.mem_cons_self
    have hy : y ∈ x :: r := p.mem_iff.mpr List.mem_cons_self
    have e : x = y := by
      rcases List.mem_cons.mp hx with e | hx
      · exact e
      · rcases List.mem_cons.mp hy with e | hy
        · exact e.symm
        · exact Int.le_antisymm (h.1 y hy) (g.1 x hx)
    subst e
    rw [rise_one (List.Perm.cons_inv p) h.2 g.2]
/-- sorted of a tuple of whole numbers -/
theorem sortedTup {prog : Program} {w : World} {A : Around} {E : Value → Shared → Prop} {s : Shared} {Q : Value → Shared → Prop} {it : Addr} {vs : List Value} {ns : List Int} (ht : IsTup s.heap it vs.toArray) (hI : IntsAre vs ns) (h64 : vs.length < 64)
    (k : ∀ (g g2 : Heap) (out : Array Value) (e : Nat) (ns' : List Int), (∀ b o, s.heap.get? b = some o → g.get? b = some o) → (∀ b o, g.get? b = some o → g2.get? b = some o) → g2.get? g.objs.size = some (seqObj "list" out e) → IntsAre out.toList ns' → ns'.Perm ns → ns'.Pairwise (· ≤ ·) → Q (.ref g.objs.size) { s with heap := g2 }) :
    wpAny (model prog w) A (call (.builtin "sorted") [.ref it]) Q E s := by
  obtain ⟨o, ho, hc, n, hd⟩ := ht
  refine Calls.call_function_entry kind_sorted plain_sorted entry_sorted (args_sorted1 _) ?_
  unfold Builtin.«sorted»
  refine wpAny_bind (m := checkCount "sorted" 1 1 _) (wpAny_pure (wpAny_bind (wpAny_collect_seq it (.inr rfl) ho hc hd (fun g hg => ?_) (by rw [List.size_toArray]; exact small64 h64))))
  have e0 : vs.toArray.toList = vs := rfl
  rw [e0]
  have hp : (g.push (seqObj "list" vs.toArray 0)).get? g.objs.size = some (seqObj "list" vs.toArray 0) := Heap.get?_push_size _ rfl
  refine wpAny_bind (wpAny_newList ?_)
  show wpAny _ _ _ _ _ { s with heap := g.push (seqObj "list" vs.toArray 0) }
  refine wpAny_bind (wpAny_holding (wpAny_call_entry slot_list_sort ⟨_, hp, rfl⟩ entry_list_sort (list_sort_tree hp hI h64 fun out ns' a1 a2 a3 => ⟨_, rfl, ?_⟩) (args_list_sort _)))
  obtain ⟨e, he⟩ := sortedHeap_at (out := out) hp
  refine wpAny_pure ⟨_, rfl, k g _ out e ns' hg (fun b ob hb => ?_) he a1 a2 a3⟩
  have hlt := Heap.lt_size hb
  rw [sortedHeap_old (Nat.ne_of_lt hlt) (by rw [size_push']; exact Nat.lt_succ_of_lt hlt), Heap.get?_push_ne _ _ _ (Nat.ne_of_lt hlt)]
  exact hb
def rSortedQ (K : PySem.W.Frag) : List V → Hp → VK → Prop := fun vs H Q => ∃ (a : Addr) (ns : List Int), vs = [V.ref a] ∧ (SqL K H a (ns.map V.int) ∨ SqT K H a (ns.map V.int)) ∧ ns.length < 64 ∧
  ∀ (ns' : List Int) (p : Addr), ns'.Perm ns → ns'.Pairwise (· ≤ ·) → H p = none → Q (.ref p) (upd H p (.lst (ns'.map V.int)))
theorem cr_sortedQ {X : Cx} : CallR X (.builtin "sorted") (rSortedQ X.K) := by
  intro pins s σ H vs us Q I r h
  obtain ⟨a, ns, rfl, hs | hs, h64, q⟩ := h
  · exact cr_sorted pins s σ H _ us Q I r ⟨a, ns, rfl, hs, h64, q⟩
  · obtain ⟨its, rv, hl, _⟩ := I.tuple hs
    rw [Vals.ref1 r]
    have hi := rv.ints
    refine sortedTup hl hi (by rw [hi.length]; exact h64) fun g g2 out e ns' hg hg2 he h1 h2 h3 => ?_
    have hlen : (ns'.map V.int).length ≤ sizeLine := by rw [List.length_map, h2.length_eq]; exact small64 h64
    have I1 : Inv X pins σ H { s with heap := g } := I.kept (t' := s.toks) hg
    exact ⟨.ref _, upd H g.objs.size (.lst (ns'.map V.int)), I1.laid (t' := s.toks) hg2 (Nat.le_refl _) ⟨hlen, out.toList, e, vals_of_ints h1, he⟩, rfl, q ns' _ h2 h3 (I1.hok.fresh (Nat.le_refl _))⟩
theorem o1_sorted : Op1 K (rSortedQ K) oSorted := by
  intro x dx d H Q rx e q
  cases dx with
  | list ds =>
    obtain ⟨a, vs, rfl, ha, hva⟩ := dp_lst rx
    unfold oSorted at e
    cases e1 : toInts ds with
    | none => simp only [e1] at e; cases e
    | some ns =>
      simp only [e1, Option.bind_some] at e
      split at e
      · rename_i h64
        cases e
        rw [dp_ints hva e1] at ha
        refine ⟨a, ns, rfl, .inl ha, h64, fun ns' p pm rs hp => ?_⟩
        have e2 : ns' = sortI ns := rise_one (pm.trans (sortI_perm ns).symm) rs (sortI_rise ns)
        subst e2
        exact q _ _ (sameUpd hp) (.lst (.inl (.inl upd_same)) (of_ints _))
      · cases e
  | tuple ds =>
    obtain ⟨a, vs, rfl, ha, hva⟩ := dp_tup rx
    unfold oSorted at e
    cases e1 : toInts ds with
    | none => simp only [e1] at e; cases e
    | some ns =>
      simp only [e1, Option.bind_some] at e
      split at e
      · rename_i h64
        cases e
        rw [dp_ints hva e1] at ha
        refine ⟨a, ns, rfl, .inr ha, h64, fun ns' p pm rs hp => ?_⟩
        have e2 : ns' = sortI ns := rise_one (pm.trans (sortI_perm ns).symm) rs (sortI_rise ns)
        subst e2
        exact q _ _ (sameUpd hp) (.lst (.inl (.inl upd_same)) (of_ints _))
      · cases e
  | _ => cases e
end
section
variable {a b : Expr} {fa fb : Ex}
theorem d_len (hm : X.mg "len" = none) (ha : DE X W a fa) (hg : Gl X "len" := by rfl) (hs : starEach [a] X.env = (false, eval a X.env) :: starEach [] X.env := by rfl) (hpl : (backTo pos (starEach [] X.env)).any (·.1) = false := by rfl) : DE X W (.Call (.Name "len" p) [a] [] pos) (eCall1 oLen fa) :=
  d_b1 call_len o1_len hm ha hg (hs := hs) (hpl := hpl)
theorem d_min2 (hc : X.calm = true) (hm : X.mg "min" = none) (ha : DE X W a fa) (hb : DE X W b fb) (hg : Gl X "min" := by rfl) (hs : starEach [a, b] X.env = (false, eval a X.env) :: starEach [b] X.env := by rfl) (hs2 : starEach [b] X.env = (false, eval b X.env) :: starEach [] X.env := by rfl) (hpl : (backTo pos (starEach [b] X.env)).any (·.1) = false := by rfl) :
    DE X W (.Call (.Name "min" p) [a, b] [] pos) (eCall2 oMin fa fb) := d_b2 (call_min2 hc) o2_min hm ha hb hg (hs := hs) (hs2 := hs2) (hpl := hpl)
theorem d_max2 (hc : X.calm = true) (hm : X.mg "max" = none) (ha : DE X W a fa) (hb : DE X W b fb) (hg : Gl X "max" := by rfl) (hs : starEach [a, b] X.env = (false, eval a X.env) :: starEach [b] X.env := by rfl) (hs2 : starEach [b] X.env = (false, eval b X.env) :: starEach [] X.env := by rfl) (hpl : (backTo pos (starEach [b] X.env)).any (·.1) = false := by rfl) :
    DE X W (.Call (.Name "max" p) [a, b] [] pos) (eCall2 oMax fa fb) := d_b2 (call_max2 hc) o2_max hm ha hb hg (hs := hs) (hs2 := hs2) (hpl := hpl)
theorem d_abs (hm : X.mg "abs" = none) (ha : DE X W a fa) (hg : Gl X "abs" := by rfl) (hs : starEach [a] X.env = (false, eval a X.env) :: starEach [] X.env := by rfl) (hpl : (backTo pos (starEach [] X.env)).any (·.1) = false := by rfl) : DE X W (.Call (.Name "abs" p) [a] [] pos) (eCall1 oAbs fa) := d_b1 call_abs o1_abs hm ha hg (hs := hs) (hpl := hpl)
theorem d_intc (hm : X.mg "int" = none) (ha : DE X W a fa) (hg : Gl X "int" := by rfl) (hs : starEach [a] X.env = (false, eval a X.env) :: starEach [] X.env := by rfl) (hpl : (backTo pos (starEach [] X.env)).any (·.1) = false := by rfl) : DE X W (.Call (.Name "int" p) [a] [] pos) (eCall1 oInt fa) := d_t1 call_int1 o1_int hm ha hg (hs := hs) (hpl := hpl)
theorem d_tupc (hm : X.mg "tuple" = none) (ha : DE X W a fa) (hg : Gl X "tuple" := by rfl) (hs : starEach [a] X.env = (false, eval a X.env) :: starEach [] X.env := by rfl) (hpl : (backTo pos (starEach [] X.env)).any (·.1) = false := by rfl) : DE X W (.Call (.Name "tuple" p) [a] [] pos) (eCall1 oTuple fa) := d_t1 call_tupF o1_tuple hm ha hg (hs := hs) (hpl := hpl)
theorem d_lstc (hm : X.mg "list" = none) (ha : DE X W a fa) (hg : Gl X "list" := by rfl) (hs : starEach [a] X.env = (false, eval a X.env) :: starEach [] X.env := by rfl) (hpl : (backTo pos (starEach [] X.env)).any (·.1) = false := by rfl) : DE X W (.Call (.Name "list" p) [a] [] pos) (eCall1 oList fa) := d_t1 call_list_of o1_list hm ha hg (hs := hs) (hpl := hpl)
theorem d_sum (hc : X.calm = true) (hm : X.mg "sum" = none) (ha : DE X W a fa) (hg : Gl X "sum" := by rfl) (hs : starEach [a] X.env = (false, eval a X.env) :: starEach [] X.env := by rfl) (hpl : (backTo pos (starEach [] X.env)).any (·.1) = false := by rfl) : DE X W (.Call (.Name "sum" p) [a] [] pos) (eCall1 oSum fa) := d_b1 (cr_sum hc) o1_sum hm ha hg (hs := hs) (hpl := hpl)
theorem d_all (hc : X.calm = true) (hm : X.mg "all" = none) (ha : DE X W a fa) (hg : Gl X "all" := by rfl) (hs : starEach [a] X.env = (false, eval a X.env) :: starEach [] X.env := by rfl) (hpl : (backTo pos (starEach [] X.env)).any (·.1) = false := by rfl) : DE X W (.Call (.Name "all" p) [a] [] pos) (eCall1 oAll fa) := d_b1 (cr_all hc) o1_all hm ha hg (hs := hs) (hpl := hpl)
theorem d_any (hc : X.calm = true) (hm : X.mg "any" = none) (ha : DE X W a fa) (hg : Gl X "any" := by rfl) (hs : starEach [a] X.env = (false, eval a X.env) :: starEach [] X.env := by rfl) (hpl : (backTo pos (starEach [] X.env)).any (·.1) = false := by rfl) : DE X W (.Call (.Name "any" p) [a] [] pos) (eCall1 oAny fa) := d_b1 (cr_any hc) o1_any hm ha hg (hs := hs) (hpl := hpl)
theorem d_minL (hc : X.calm = true) (hm : X.mg "min" = none) (ha : DE X W a fa) (hg : Gl X "min" := by rfl) (hs : starEach [a] X.env = (false, eval a X.env) :: starEach [] X.env := by rfl) (hpl : (backTo pos (starEach [] X.env)).any (·.1) = false := by rfl) : DE X W (.Call (.Name "min" p) [a] [] pos) (eCall1 oMinL fa) := d_b1 (cr_min hc) o1_minL hm ha hg (hs := hs) (hpl := hpl)
theorem d_maxL (hc : X.calm = true) (hm : X.mg "max" = none) (ha : DE X W a fa) (hg : Gl X "max" := by rfl) (hs : starEach [a] X.env = (false, eval a X.env) :: starEach [] X.env := by rfl) (hpl : (backTo pos (starEach [] X.env)).any (·.1) = false := by rfl) : DE X W (.Call (.Name "max" p) [a] [] pos) (eCall1 oMaxL fa) := d_b1 (cr_max hc) o1_maxL hm ha hg (hs := hs) (hpl := hpl)
theorem d_sorted (hm : X.mg "sorted" = none) (ha : DE X W a fa) (hg : Gl X "sorted" := by rfl) (hs : starEach [a] X.env = (false, eval a X.env) :: starEach [] X.env := by rfl) (hpl : (backTo pos (starEach [] X.env)).any (·.1) = false := by rfl) : DE X W (.Call (.Name "sorted" p) [a] [] pos) (eCall1 oSorted fa) := d_b1 cr_sortedQ o1_sorted hm ha hg (hs := hs) (hpl := hpl)
end
end
end L2.DL
set_option maxHeartbeats 2000000
namespace L2.DL
open PySem PySem.Spec PyProof.Rows

/-! ### some tracked lists set aside: an expression runs without them, they stay as they are -/
def cut (A : List Addr) (H : Hp) : Hp := fun b => if b ∈ A then none else H b
def glue (A : List Addr) (H H' : Hp) : Hp := fun b => if b ∈ A then H b else H' b
theorem cut_in {A : List Addr} {H : Hp} {b : Addr} (h : b ∈ A) : cut A H b = none := if_pos h
theorem cut_out {A : List Addr} {H : Hp} {b : Addr} (h : b ∉ A) : cut A H b = H b := if_neg h
theorem glue_in {A : List Addr} {H H' : Hp} {b : Addr} (h : b ∈ A) : glue A H H' b = H b := if_pos h
theorem glue_out {A : List Addr} {H H' : Hp} {b : Addr} (h : b ∉ A) : glue A H H' b = H' b := if_neg h
theorem cut_some {A : List Addr} {H : Hp} {b : Addr} {o : HO} (h : cut A H b = some o) : b ∉ A ∧ H b = some o := by
  unfold cut at h
  split at h
  · cases h
  · exact ⟨by assumption, h⟩
/-- a list or a dict -/
inductive Own1 : HO → Prop
  | lst (xs : List V) : Own1 (.lst xs)
  | dK (kvs : List (Key × V)) : Own1 (.dK kvs)
/-- the lists, dicts at A are tracked -/
def Lsts (A : List Addr) (H : Hp) : Prop := ∀ a ∈ A, ∃ o, H a = some o ∧ Own1 o
theorem cutSame {A : List Addr} {H : Hp} : Same (cut A H) H := fun b o e => (cut_some e).2
theorem cutMono {A : List Addr} {H H' : Hp} (s : Same H H') : Same (cut A H) (cut A H') := fun b o e => by
  obtain ⟨h1, h2⟩ := cut_some e
  rw [cut_out h1]
  exact s b o h2
theorem glueCut {A : List Addr} {H H' : Hp} (n : ∀ a ∈ A, H' a = none) : cut A (glue A H H') = H' := by
  funext b
  by_cases h : b ∈ A
  · rw [cut_in h, n b h]
  · rw [cut_out h, glue_out h]
theorem glueSame {A : List Addr} {H H' : Hp} (s : Same (cut A H) H') : Same H (glue A H H') := fun b o e => by
  by_cases h : b ∈ A
  · rw [glue_in h]; exact e
  · rw [glue_out h]; exact s b o (by rw [cut_out h]; exact e)
theorem Lsts.glue {A : List Addr} {H H' : Hp} (h : Lsts A H) : Lsts A (glue A H H') := fun a ha => by
  rw [glue_in ha]; exact h a ha
theorem Own1.obj {P : Program} {w : World} {H : Hp} {h : Heap} {a : Addr} (hok : HOk P w H h) (hA : ∃ o, H a = some o ∧ Own1 o) : ∃ o, h.get? a = some o ∧ ∀ v, o.data ≠ .cell v := by
  obtain ⟨o, e, k⟩ := hA
  cases k with
  | lst xs =>
    obtain ⟨_, its, n, _, q⟩ := hok a _ e
    exact ⟨_, q, fun v z => by cases z⟩
  | dK kvs =>
    obtain ⟨_, _, vs, _, ob, es, ep, q, _, d, _⟩ := hok a _ e
    exact ⟨_, q, fun v z => by rw [d] at z; cases z⟩
def pinA (A : List Addr) (h : Heap) : List (Addr × Obj) := pinsAt A h
section
variable {X : Cx} {pins : List (Addr × Obj)} {σ : St} {H H' : Hp} {s s' : Shared} {A : List Addr}
theorem Inv.setAside (I : Inv X pins σ H s) (hA : Lsts A H) : Inv X (pins ++ pinA A s.heap) σ (cut A H) s := by
  have obj : ∀ a ∈ A, ∃ o, s.heap.get? a = some o ∧ ∀ v, o.data ≠ .cell v := fun a ha => Own1.obj I.hok (hA a ha)
  have tracked : ∀ a ∈ A, H a ≠ none := fun a ha z => by
    obtain ⟨o, e, _⟩ := hA a ha
    rw [e] at z; cases z
  have nL : ∀ {b o}, H b = some o → ¬ Own1 o → b ∉ A := fun {b o} e n ha => by
    obtain ⟨o', e', h⟩ := hA b ha
    rw [e] at e'; cases e'
    exact n h
  refine ⟨I.ok, I.os, I.bare, ⟨I.base.keep, I.base.slot, fun b o e n hx => ?_, I.base.there, fun b xs e => ?_, fun b o u e => ?_, fun b ps e => ?_⟩, I.loc, I.cell, ?_, fun x c e => ?_, fun p hp => ?_, fun a o e => ?_, I.len⟩
  · have z := I.base.free b o e n hx
    by_cases h : b ∈ A
    · exact cut_in h
    · rw [cut_out h]; exact z
  · have z := I.base.tups b xs e
    rw [cut_out (nL z (fun q => nomatch q))]; exact z
  · have z := I.base.frzs b o u e
    rw [cut_out (nL z (fun q => nomatch q))]; exact z
  · obtain ⟨more, z⟩ := I.base.tbls b ps e
    exact ⟨more, by rw [cut_out (nL z (fun q => nomatch q))]; exact z⟩
  · by_cases h : X.env.locals ∈ A
    · exact cut_in h
    · rw [cut_out h]; exact I.free
  · by_cases h : c ∈ A
    · exact cut_in h
    · rw [cut_out h]; exact I.freeC x c e
  · rw [← List.append_assoc] at hp
    rcases List.mem_append.mp hp with hp | hp
    · obtain ⟨e, n, ne, nf, d⟩ := I.pin p hp
      refine ⟨e, ?_, ne, nf, d⟩
      by_cases h : p.1 ∈ A
      · exact cut_in h
      · rw [cut_out h]; exact n
    · obtain ⟨ha, e⟩ := of_pinsAt hp
      obtain ⟨ob, q, nc⟩ := obj p.1 ha
      refine ⟨e, cut_in ha, fun z => tracked p.1 ha (by rw [z]; exact I.free), fun hf => ?_, fun v z => ?_⟩
      · obtain ⟨_, o, ho, _⟩ := I.ok.funs.mem hf
        exact tracked p.1 ha (I.base.free p.1 o ho (I.ok.frf p.1 hf) fun z => I.ok.exfs p.1 z hf)
      · rw [e] at q
        exact nc v (Option.some.inj q ▸ z)
  · obtain ⟨h1, h2⟩ := cut_some e
    exact (I.hok a o h2).stay (fun b u _ q => q) (fun b q => by rw [cut_out (nL q (fun z => nomatch z))]; exact q) fun b xs q => by rw [cut_out (nL q (fun z => nomatch z))]; exact q
theorem Inv.putBack {σ' : St} (I : Inv X pins σ H s) (hA : Lsts A H) (J : Inv X (pins ++ pinA A s.heap) σ' H' s') : (∀ a ∈ A, H' a = none) ∧ Inv X pins σ' (glue A H H') s' := by
  have obj : ∀ a ∈ A, ∃ o, s.heap.get? a = some o ∧ s'.heap.get? a = some o ∧ H' a = none := fun a ha => by
    obtain ⟨ob, q, _⟩ := Own1.obj I.hok (hA a ha)
    obtain ⟨z1, z2, _⟩ := J.pin (a, _) (List.mem_append_right _ (List.mem_append_right _ (mem_pinsAt ha q)))
    exact ⟨_, q, z1, z2⟩
  have none' : ∀ a ∈ A, H' a = none := fun a ha => let ⟨_, _, _, z⟩ := obj a ha; z
  have tracked : ∀ a ∈ A, H a ≠ none := fun a ha z => by
    obtain ⟨o, e, _⟩ := hA a ha
    rw [e] at z; cases z
  have out : ∀ {b o}, H' b = some o → b ∉ A := fun {b o} e ha => by rw [none' b ha] at e; cases e
  refine ⟨none', ⟨J.ok, J.os, J.bare, ⟨J.base.keep, J.base.slot, fun b o e n hx => ?_, J.base.there, fun b xs e => ?_, fun b o u e => ?_, fun b ps e => ?_⟩, J.loc, J.cell, ?_, fun x c e => ?_, fun p hp => ?_, fun a o e => ?_, J.len⟩⟩
  · have z := I.base.free b o e n hx
    by_cases h : b ∈ A
    · exact absurd z (tracked b h)
    · rw [glue_out h]; exact J.base.free b o e n hx
  · have z := J.base.tups b xs e
    rw [glue_out (out z)]; exact z
  · have z := J.base.frzs b o u e
    rw [glue_out (out z)]; exact z
  · obtain ⟨more, z⟩ := J.base.tbls b ps e
    exact ⟨more, by rw [glue_out (out z)]; exact z⟩
  · by_cases h : X.env.locals ∈ A
    · exact absurd I.free (tracked _ h)
    · rw [glue_out h]; exact J.free
  · by_cases h : c ∈ A
    · exact absurd (I.freeC x c e) (tracked _ h)
    · rw [glue_out h]; exact J.freeC x c e
  · have hp' : p ∈ X.pn ++ (pins ++ pinA A s.heap) := by
      rcases List.mem_append.mp hp with h | h
      · exact List.mem_append_left _ h
      · exact List.mem_append_right _ (List.mem_append_left _ h)
    obtain ⟨e, n, ne, nf, d⟩ := J.pin p hp'
    refine ⟨e, ?_, ne, nf, d⟩
    by_cases h : p.1 ∈ A
    · exact absurd (I.pin p hp).2.1 (tracked _ h)
    · rw [glue_out h]; exact n
  · by_cases h : a ∈ A
    · rw [glue_in h] at e
      obtain ⟨o1, e', h1⟩ := hA a h
      rw [e'] at e
      cases e
      obtain ⟨o, q1, q2, _⟩ := obj a h
      cases h1 with
      | lst xs =>
        obtain ⟨z, its, n, r, q⟩ := I.hok a _ e'
        rw [q1] at q; cases q
        exact ⟨z, its, n, r, q2⟩
      | dK kvs =>
        obtain ⟨z, y, vs, r, ob, es, ep, q, c⟩ := I.hok a _ e'
        rw [q1] at q; cases q
        exact ⟨z, y, vs, r, o, es, ep, q2, c⟩
    · rw [glue_out h] at e
      exact (J.hok a o e).stay (fun b u _ q => q) (fun b q => by rw [glue_out (out q)]; exact q) fun b xs q => by rw [glue_out (out q)]; exact q
end
def tFr (t : TE) : TE := fun σ H Q => ∃ A, Lsts A H ∧ t σ (cut A H) fun v H' => (∀ a ∈ A, H' a = none) → Q v (glue A H H')
theorem pe_frame {X : Cx} {e : Expr} {t : TE} (h : PE X e t) : PE X e (tFr t) := ⟨fun pins s σ H Q I ⟨A, hA, q⟩ =>
  thn (h.run _ s σ _ _ (Inv.setAside I hA) q) fun u s' ⟨v, H', J, r, q'⟩ => by
    obtain ⟨n, K⟩ := Inv.putBack I hA J
    exact ⟨v, _, K, r, q' n⟩⟩
def Ends.fr (A : List Addr) (H : Hp) (D : Ends) : Ends := { nx := fun σ' H' => (∀ a ∈ A, H' a = none) → D.nx σ' (glue A H H'), rt := fun v H' => (∀ a ∈ A, H' a = none) → D.rt v (glue A H H'), bk := fun σ' H' => (∀ a ∈ A, H' a = none) → D.bk σ' (glue A H H'), ct := fun σ' H' => (∀ a ∈ A, H' a = none) → D.ct σ' (glue A H H') }
def tFrS (t : TS) : TS := fun D σ H => ∃ A, Lsts A H ∧ t (Ends.fr A H D) σ (cut A H)
theorem ps_frame {X : Cx} {st : Stmt} {t : TS} (h : PS X st t) : PS X st (tFrS t) := ⟨fun pins s σ H D I ⟨A, hA, q⟩ =>
  thn (h.run _ s σ _ _ (Inv.setAside I hA) q) fun f s' hs => by
    cases f with
    | next =>
      obtain ⟨σ', H', J, q'⟩ := hs
      obtain ⟨n, K⟩ := Inv.putBack I hA J
      exact ⟨σ', _, K, q' n⟩
    | brk =>
      obtain ⟨σ', H', J, q'⟩ := hs
      obtain ⟨n, K⟩ := Inv.putBack I hA J
      exact ⟨σ', _, K, q' n⟩
    | cont =>
      obtain ⟨σ', H', J, q'⟩ := hs
      obtain ⟨n, K⟩ := Inv.putBack I hA J
      exact ⟨σ', _, K, q' n⟩
    | ret u =>
      obtain ⟨v, σ', H', J, r, q'⟩ := hs
      obtain ⟨n, K⟩ := Inv.putBack I hA J
      exact ⟨v, σ', _, K, r, q' n⟩⟩
def tFrT (t : TT) : TT := fun σ H Q => ∃ A, Lsts A H ∧ t σ (cut A H) fun v H' => (∀ a ∈ A, H' a = none) → Q v (glue A H H')
def tFrI (t : TI) : TI := fun σ H R => ∃ A, Lsts A H ∧ t σ (cut A H) fun J H' => (∀ a ∈ A, H' a = none) → R J (glue A H H')
theorem pi_frame {X : Cx} {tg e : Expr} {t : TI} (h : PI X tg e t) : PI X tg e (tFrI t) := ⟨fun pins s σ H R I ⟨A, hA, q⟩ =>
  thn (h.run _ s σ _ _ (Inv.setAside I hA) q) fun u s1 h1 => thn h1 fun itv s' ⟨it, fp, tn, J, H', e, I2, T, st, f2, r⟩ => by
    obtain ⟨n, K⟩ := Inv.putBack I hA I2
    refine ⟨it, fp, tn, J, _, e, K, T, st, fun b hb => ?_, r n⟩
    obtain ⟨z0, z1, z2, z3, z4, z5⟩ := f2 b hb
    refine ⟨?_, z1, z2, z3, z4, fun p hp => z5 p ?_⟩
    · have hbA : b ∉ A := fun ha => by
        obtain ⟨ob, q, _⟩ := Own1.obj I.hok (hA b ha)
        exact z5 (b, _) (List.mem_append_right _ (List.mem_append_right _ (mem_pinsAt ha q))) rfl
      rw [glue_out hbA]; exact z0
    · rcases List.mem_append.mp hp with h | h
      · exact List.mem_append_left _ h
      · exact List.mem_append_right _ (List.mem_append_left _ h)⟩

/-! ### isinstance -/
def isaInt : PyData → Option PyData
  | .int _ => some (.bool true)
  | .bool _ => some (.bool true)
  | .dict _ => none
  | _ => some (.bool false)
def isaBool : PyData → Option PyData
  | .bool _ => some (.bool true)
  | .dict _ => none
  | _ => some (.bool false)
def isaTuple : PyData → Option PyData
  | .tuple _ => some (.bool true)
  | .dict _ => none
  | _ => some (.bool false)
def isaList : PyData → Option PyData
  | .list _ => some (.bool true)
  | .dict _ => none
  | _ => some (.bool false)
def isaStr : PyData → Option PyData
  | .str _ => some (.bool true)
  | .dict _ => none
  | _ => some (.bool false)
def tyName : PyData → String
  | .none => "NoneType"
  | .bool _ => "bool"
  | .int _ => "int"
  | .str _ => "str"
  | .list _ => "list"
  | .tuple _ => "tuple"
  | .dict _ => "dict"
theorem dp_ty {K : PySem.W.Frag} {H : Hp} {v : V} {d : PyData} (h : Dp K H v d) (hn : ∀ ds, d ≠ .dict ds) : TyX K H v (.type (tyName d)) := by
  cases h with
  | dic _ _ => exact absurd rfl (hn _)
  | ins _ _ _ => exact absurd rfl (hn _)
  | non => exact .base .non
  | bl b => exact .base (.bl b)
  | int i => exact .base (.int i)
  | str x => exact .base (.str x)
  | lst hs ha =>
    rcases hs with (h | ⟨o, h⟩) | ⟨o, its, n, h, c, _⟩
    · exact .base (.lst h)
    · exact .base (.frz h)
    · exact .kList h c
  | tup hs ha =>
    rcases hs with ⟨o, h, _⟩ | ⟨o, its, n, h, c, _⟩
    · exact .fTuple h
    · exact .kTuple h c
section
variable {X : Cx} {W : WX} {a : Expr} {fa : Ex} {p p2 pos : Pos}
theorem d_isa {T : Str} {t : String} {op : PyData → Option PyData} (hnd : ∀ ds, op (.dict ds) = none) (hop : ∀ d b, op d = some (.bool b) → kitB (tyName d) t = some b) (hb : ∀ d r, op d = some r → ∃ b, r = .bool b) (hm : X.mg "isinstance" = none) (hm2 : X.mg T = none) (hv : bootBuiltins T = some (.type t)) (ha : DE X W a fa) (hg : Gl X "isinstance") (hg2 : Gl X T) (hn : T ≠ "__name__") (hd : (T == ("__debug__" : Str)) = false)
    (hs : starEach [a, .Name T p2] X.env = (false, eval a X.env) :: starEach [.Name T p2] X.env) (hs2 : starEach [.Name T p2] X.env = (false, eval (.Name T p2) X.env) :: starEach [] X.env) (hpl : (backTo pos (starEach [.Name T p2] X.env)).any (·.1) = false) :
    DE X W (.Call (.Name "isinstance" p) [a, .Name T p2] [] pos) (eCall1 op fa) := by
  refine peImp (pe_callB call_isi hg hm (by decide +kernel) (pa_cons ha (pa_cons (pe_bltn (v := .ty t) hg2 hm2 hv rfl hn hd) pa_nil hs2) hs) (he := hs) (hpl := hpl)) fun σ H Q h => ?_
  obtain ⟨ρ, hρ, h⟩ := h
  refine ⟨ρ, hρ, (Post.bind h).imp fun v H1 _ ⟨dx, _, s1, rx, h1⟩ => ?_⟩
  cases e : op dx with
  | none => rw [e] at h1; exact h1.elim
  | some d =>
    rw [e] at h1
    obtain ⟨b, rfl⟩ := hb _ _ e
    exact ⟨v, .ty t, _, _, b, rfl, .ty t, dp_ty rx (fun ds z => by rw [z, hnd] at e; cases e), kit_ty (hop dx b e), h1 _ H1 (Same.refl _) (.bl _)⟩
theorem d_isInt (hm : X.mg "isinstance" = none) (hm2 : X.mg "int" = none) (ha : DE X W a fa) (hg : Gl X "isinstance" := by rfl) (hg2 : Gl X "int" := by rfl)
    (hs : starEach [a, .Name "int" p2] X.env = (false, eval a X.env) :: starEach [.Name "int" p2] X.env := by rfl) (hs2 : starEach [.Name "int" p2] X.env = (false, eval (.Name "int" p2) X.env) :: starEach [] X.env := by rfl) (hpl : (backTo pos (starEach [.Name "int" p2] X.env)).any (·.1) = false := by rfl) :
    DE X W (.Call (.Name "isinstance" p) [a, .Name "int" p2] [] pos) (eCall1 isaInt fa) :=
  d_isa (t := "int") (fun _ => rfl) (fun d b e => by cases d <;> cases e <;> (simp only [tyName]; decide +kernel)) (fun d r e => by cases d <;> cases e <;> exact ⟨_, rfl⟩) hm hm2 (by decide +kernel) ha hg hg2 (by decide) (by decide) hs hs2 hpl
theorem d_isBool (hm : X.mg "isinstance" = none) (hm2 : X.mg "bool" = none) (ha : DE X W a fa) (hg : Gl X "isinstance" := by rfl) (hg2 : Gl X "bool" := by rfl)
    (hs : starEach [a, .Name "bool" p2] X.env = (false, eval a X.env) :: starEach [.Name "bool" p2] X.env := by rfl) (hs2 : starEach [.Name "bool" p2] X.env = (false, eval (.Name "bool" p2) X.env) :: starEach [] X.env := by rfl) (hpl : (backTo pos (starEach [.Name "bool" p2] X.env)).any (·.1) = false := by rfl) :
    DE X W (.Call (.Name "isinstance" p) [a, .Name "bool" p2] [] pos) (eCall1 isaBool fa) :=
  d_isa (t := "bool") (fun _ => rfl) (fun d b e => by cases d <;> cases e <;> (simp only [tyName]; decide +kernel)) (fun d r e => by cases d <;> cases e <;> exact ⟨_, rfl⟩) hm hm2 (by decide +kernel) ha hg hg2 (by decide) (by decide) hs hs2 hpl
theorem d_isTuple (hm : X.mg "isinstance" = none) (hm2 : X.mg "tuple" = none) (ha : DE X W a fa) (hg : Gl X "isinstance" := by rfl) (hg2 : Gl X "tuple" := by rfl)
    (hs : starEach [a, .Name "tuple" p2] X.env = (false, eval a X.env) :: starEach [.Name "tuple" p2] X.env := by rfl) (hs2 : starEach [.Name "tuple" p2] X.env = (false, eval (.Name "tuple" p2) X.env) :: starEach [] X.env := by rfl) (hpl : (backTo pos (starEach [.Name "tuple" p2] X.env)).any (·.1) = false := by rfl) :
    DE X W (.Call (.Name "isinstance" p) [a, .Name "tuple" p2] [] pos) (eCall1 isaTuple fa) :=
  d_isa (t := "tuple") (fun _ => rfl) (fun d b e => by cases d <;> cases e <;> (simp only [tyName]; decide +kernel)) (fun d r e => by cases d <;> cases e <;> exact ⟨_, rfl⟩) hm hm2 (by decide +kernel) ha hg hg2 (by decide) (by decide) hs hs2 hpl
theorem d_isList (hm : X.mg "isinstance" = none) (hm2 : X.mg "list" = none) (ha : DE X W a fa) (hg : Gl X "isinstance" := by rfl) (hg2 : Gl X "list" := by rfl)
    (hs : starEach [a, .Name "list" p2] X.env = (false, eval a X.env) :: starEach [.Name "list" p2] X.env := by rfl) (hs2 : starEach [.Name "list" p2] X.env = (false, eval (.Name "list" p2) X.env) :: starEach [] X.env := by rfl) (hpl : (backTo pos (starEach [.Name "list" p2] X.env)).any (·.1) = false := by rfl) :
    DE X W (.Call (.Name "isinstance" p) [a, .Name "list" p2] [] pos) (eCall1 isaList fa) :=
  d_isa (t := "list") (fun _ => rfl) (fun d b e => by cases d <;> cases e <;> (simp only [tyName]; decide +kernel)) (fun d r e => by cases d <;> cases e <;> exact ⟨_, rfl⟩) hm hm2 (by decide +kernel) ha hg hg2 (by decide) (by decide) hs hs2 hpl
theorem d_isStr (hm : X.mg "isinstance" = none) (hm2 : X.mg "str" = none) (ha : DE X W a fa) (hg : Gl X "isinstance" := by rfl) (hg2 : Gl X "str" := by rfl)
    (hs : starEach [a, .Name "str" p2] X.env = (false, eval a X.env) :: starEach [.Name "str" p2] X.env := by rfl) (hs2 : starEach [.Name "str" p2] X.env = (false, eval (.Name "str" p2) X.env) :: starEach [] X.env := by rfl) (hpl : (backTo pos (starEach [.Name "str" p2] X.env)).any (·.1) = false := by rfl) :
    DE X W (.Call (.Name "isinstance" p) [a, .Name "str" p2] [] pos) (eCall1 isaStr fa) :=
  d_isa (t := "str") (fun _ => rfl) (fun d b e => by cases d <;> cases e <;> (simp only [tyName]; decide +kernel)) (fun d r e => by cases d <;> cases e <;> exact ⟨_, rfl⟩) hm hm2 (by decide +kernel) ha hg hg2 (by decide) (by decide) hs hs2 hpl
end

/-! ### slices -/
abbrev Pt := Env → Res (Option Int)
def ptNo : Pt := fun _ => .ok none
def asI : PyData → Res Int
  | .int i => .ok i
  | _ => .bad
def ptSome (f : Ex) : Pt := fun ρ => (f ρ).bind fun x => (asI x).bind fun i => .ok (some i)
def cutD (xs : List PyData) (lo hi : Option Int) : List PyData := (xs.drop (HT.sIx xs.length 0 lo)).take (HT.sIx xs.length xs.length hi - HT.sIx xs.length 0 lo)
def oSlice (d : PyData) (lo hi : Option Int) : Option PyData := match d with
  | .list xs => some (.list (cutD xs lo hi))
  | .tuple xs => some (.tuple (cutD xs lo hi))
  | _ => none
def eSlice (f : Ex) (lo hi : Pt) : Ex := fun ρ => (f ρ).bind fun x => (lo ρ).bind fun l => (hi ρ).bind fun h => Res.of (oSlice x l h)
def PostO (K : PySem.W.Frag) (mg : Str → Option Value) (W : WX) (σ : St) (H : Hp) (Q : Option Int → Hp → Prop) : Res (Option Int) → Prop
  | .ok b => ∀ H', Same H H' → Q b H'
  | .err c => ∃ C, mg c = some (.ref C) ∧ ∀ (d : D0) H', Same H H' → W (.ref C) d σ H'
  | .bad => False
def tDO (K : PySem.W.Frag) (mg : Str → Option Value) (W : WX) (f : Pt) : TO := fun σ H Q => ∃ ρ, DpS K H σ ρ ∧ PostO K mg W σ H Q (f ρ)
abbrev DO (X : Cx) (W : WX) (e : Option Expr) (f : Pt) : Prop := PO X e (tDO X.K X.mg W f)
theorem poImp {X : Cx} {e : Option Expr} {t t' : TO} (h : PO X e t) (k : ∀ σ H Q, t' σ H Q → t σ H Q) : PO X e t' := ⟨fun pins s σ H Q I q => h.run pins s σ H Q I (k σ H Q q)⟩
section
variable {K : PySem.W.Frag} {mg : Str → Option Value} {W : WX} {σ : St} {H H' : Hp}
theorem PostO.mono {Q : Option Int → Hp → Prop} {r : Res (Option Int)} (h : PostO K mg W σ H Q r) (s : Same H H') : PostO K mg W σ H' Q r := by
  cases r with
  | ok d => exact fun H2 s2 => h H2 (s.trans s2)
  | err c =>
    obtain ⟨C, h1, h2⟩ := h
    exact ⟨C, h1, fun d H2 s2 => h2 d H2 (s.trans s2)⟩
  | bad => exact h
theorem PostO.imp {Q Q' : Option Int → Hp → Prop} {r : Res (Option Int)} (h : PostO K mg W σ H Q r) (k : ∀ b H', Same H H' → Q b H' → Q' b H') : PostO K mg W σ H Q' r := by
  cases r with
  | ok d => exact fun H2 s2 => k _ H2 s2 (h H2 s2)
  | err c => exact h
  | bad => exact h
theorem PostO.bind {Q : VK} {r : Res (Option Int)} {k : Option Int → Res PyData} (h : Post K mg W σ H Q (r.bind k)) :
    PostO K mg W σ H (fun b H' => r = .ok b ∧ Same H H' ∧ Post K mg W σ H' Q (k b)) r := by
  cases r with
  | ok d => exact fun H2 s2 => ⟨rfl, s2, Post.mono (r := k d) h s2⟩
  | err c => exact h
  | bad => exact h
theorem Post.bindO {Q : Option Int → Hp → Prop} {r : Res PyData} {k : PyData → Res (Option Int)} (h : PostO K mg W σ H Q (r.bind k)) :
    Post K mg W σ H (fun v H' => ∃ d, r = .ok d ∧ Same H H' ∧ Dp K H' v d ∧ PostO K mg W σ H' Q (k d)) r := by
  cases r with
  | ok d => exact fun v H2 s2 q => ⟨d, rfl, s2, q, PostO.mono (r := k d) h s2⟩
  | err c => exact h
  | bad => exact h
end
section
variable {X : Cx} {W : WX} {a b : Expr} {fa fb : Ex} {lo hi : Option Expr} {fl fh : Pt} {p2 pos : Pos}
theorem o_none : DO X W none ptNo := poImp po_none fun σ H Q ⟨ρ, _, h⟩ => h H (Same.refl _)
theorem o_some (h : DE X W a fa) : DO X W (some a) (ptSome fa) := by
  refine poImp (po_some h) fun σ H Q ⟨ρ, hρ, h⟩ => ⟨ρ, hρ, (Post.bindO h).imp fun v H1 _ ⟨d, _, s1, rx, h1⟩ => ?_⟩
  cases d with
  | int i => exact ⟨i, dp_int rx, h1 H1 (Same.refl _)⟩
  | _ => exact h1.elim
theorem cutD_of {K : PySem.W.Frag} {H : Hp} {vs : List V} {ds : List PyData} (h : DpAll K H vs ds) (l u : Option Int) : DpAll K H (cutV vs l u) (cutD ds l u) := by
  unfold cutV cutD
  rw [h.len]
  exact (h.drop _).take _
theorem cutD_whole {ds : List PyData} {l u : Option Int} (h1 : HT.sIx ds.length 0 l = 0) (h2 : HT.sIx ds.length ds.length u = ds.length) : cutD ds l u = ds := by
  unfold cutD
  rw [h1, h2]
  simp
/-- t[lo:hi]: the new tuple's object is known -/
def rSlF (K : PySem.W.Frag) : V → Option Int → Option Int → Hp → VK → Prop := fun x lo hi H Q => ∃ a xs, x = .ref a ∧ SqT K H a xs ∧
  (HT.sIx xs.length 0 lo = 0 ∧ HT.sIx xs.length xs.length hi = xs.length → Q (.ref a) H) ∧ (¬ (HT.sIx xs.length 0 lo = 0 ∧ HT.sIx xs.length xs.length hi = xs.length) → ∀ (p : Addr) (o : Obj), o.dict = none → H p = none → Q (.ref p) (upd H p (.frz o (.tup (cutV xs lo hi)))))
theorem sl_tupF : SlR X (rSlF X.K) := by
  intro pins s σ H x v vl vu lo hi sl Q I rx hs pl pu h
  obtain ⟨a, xs, rfl, hx, q1, q2⟩ := h
  cases rx
  obtain ⟨its, r, ht, hz⟩ := I.tuple hx
  have hlen : its.toArray.size = xs.length := by rw [List.size_toArray]; exact r.length.symm
  refine ⟨"tuple", _, PyProof.Rows.slot_tuple_getitem.lookup, ht.typeIs, ?_⟩
  by_cases hw : HT.sIx xs.length 0 lo = 0 ∧ HT.sIx xs.length xs.length hi = xs.length
  · exact getItem_tuple_whole ht hs pl pu (by rw [hlen]; exact hw) ⟨.ref a, H, I, rfl, q1 hw⟩
  · refine HT.getItem_tuple_cut ht hs pl pu (by rw [hlen]; exact hw) ?_ (by rw [hlen]; exact hz)
    rw [hlen]
    refine ⟨.ref s.heap.objs.size, _, I.laid (t' := s.toks) (o := .frz { cls := .type "tuple", data := .seq ((its.toArray.toList.drop (HT.sIx xs.length 0 lo)).take (HT.sIx xs.length xs.length hi - HT.sIx xs.length 0 lo)).toArray } (.tup (cutV xs lo hi))) (fun b ob q => Heap.get?_push_of_some _ q) (Nat.le_refl _) ?_, rfl, q2 hw _ _ rfl (I.hok.fresh (Nat.le_refl _))⟩
    · exact ⟨Heap.get?_push_size _ rfl, Nat.le_trans (cutV_length xs lo hi) hz, _, (r.drop (HT.sIx xs.length 0 lo)).take (HT.sIx xs.length xs.length hi - HT.sIx xs.length 0 lo), IsTup.new _ _⟩
theorem d_slice (ha : DE X W a fa) (hl : DO X W lo fl) (hh : DO X W hi fh) : DE X W (.Subscript a (.Slice lo hi none p2) pos) (eSlice fa fl fh) := by
  refine peImp (pe_slice (SlR.or sl_list sl_tupF) ha hl hh) fun σ H Q ⟨ρ, hρ, h⟩ => ⟨ρ, hρ, (Post.bind h).imp fun v H1 _ ⟨d, _, s1, rx, h1⟩ => ⟨ρ, hρ.mono s1, (PostO.bind h1).imp fun l H2 _ ⟨_, s2, h2⟩ => ⟨ρ, (hρ.mono s1).mono s2, (PostO.bind h2).imp fun u H3 _ ⟨_, s3, h3⟩ => ?_⟩⟩⟩
  have rx3 := dpMono (s2.trans s3) rx
  cases d with
  | list ds =>
    obtain ⟨q, vs, rfl, hs, hv⟩ := dp_lst rx3
    exact .inl ⟨q, vs, rfl, hs, fun p hp => h3 _ _ (sameUpd hp) (.lst (.inl (.inl upd_same)) (cutD_of (dpAllMono (sameUpd hp) hv) l u))⟩
  | tuple ds =>
    obtain ⟨q, vs, rfl, hs, hv⟩ := dp_tupP rx3
    refine .inr ⟨q, vs, rfl, hs.sqt, fun ⟨e1, e2⟩ => ?_, fun _ p o hdn hp => h3 _ _ (sameUpd hp) (.tup (.inl ⟨o, upd_same, hdn⟩) (cutD_of (dpAllMono (sameUpd hp) hv) l u))⟩
    rw [hv.len] at e1 e2
    exact h3 _ H3 (Same.refl _) (by rw [cutD_whole e1 e2]; exact .tup hs hv)
  | _ => exact h3.elim
end
end L2.DL
set_option maxHeartbeats 2000000
namespace L2.DL
open PySem PySem.Spec PyProof.Rows

/-! ### targets -/
inductive Tgt where
  | one (i : Nat) | tup (is : List Nat)
def setAll : List Nat → List PyData → Env → Env
  | i :: is, d :: ds, ρ => setAll is ds (ρ.set i (some d))
  | _, _, ρ => ρ
def bindT : Tgt → PyData → Env → Res Env
  | .one i, d, ρ => .ok (ρ.set i (some d))
  | .tup is, .tuple ds, ρ => if ds.length = is.length then .ok (setAll is ds ρ) else .bad
  | .tup _, _, _ => .bad
def Tgt.slots : Tgt → List Nat
  | .one i => [i]
  | .tup is => is
def gNames : List Nat → TGs
  | [] => gNil
  | i :: is => gCons (gName i) (gNames is)
def tgG (K : PySem.W.Frag) : Tgt → TG
  | .one i => gName i
  | .tup is => gTup K is.length (gNames is)
abbrev DG (X : Cx) (tg : Expr) (t : Tgt) : Prop := PG X tg (tgG X.K t)
/-- only the slots of L differ -/
def OnlyAt (L : List Nat) (σ σ' : St) : Prop := σ'.length = σ.length ∧ ∀ i, i ∉ L → σ'[i]? = σ[i]?
theorem OnlyAt.set {i : Nat} {σ : St} {v : Option V} {L : List Nat} (h : i ∈ L) : OnlyAt L σ (σ.set i v) := ⟨List.length_set, fun j hj => List.getElem?_set_ne (fun e => hj (by rw [← e]; exact h))⟩
theorem OnlyAt.trans {L : List Nat} {σ σ' σ'' : St} (a : OnlyAt L σ σ') (b : OnlyAt L σ' σ'') : OnlyAt L σ σ'' := ⟨b.1.trans a.1, fun i hi => (b.2 i hi).trans (a.2 i hi)⟩
theorem OnlyAt.refl {L : List Nat} {σ : St} : OnlyAt L σ σ := ⟨rfl, fun _ _ => rfl⟩
theorem gNames_of {K : PySem.W.Frag} {G H : Hp} {L : List Nat} : ∀ (is : List Nat) {vs : List V} {ds : List PyData} {σ : St} {ρ : Env} {Q : St → Hp → Prop}, (∀ i ∈ is, i ∈ L) → ds.length = is.length → DpAll K G vs ds → DpS K G σ ρ →
    (∀ σ', OnlyAt L σ σ' → DpS K G σ' (setAll is ds ρ) → Q σ' H) → gNames is vs σ H Q
  | [], vs, ds, σ, ρ, Q, _, hl, hv, hρ, q => by
    cases hv with
    | nil => exact ⟨rfl, q σ .refl hρ⟩
    | cons _ _ => simp at hl
  | i :: is, vs, ds, σ, ρ, Q, hL, hl, hv, hρ, q => by
    cases hv with
    | nil => simp at hl
    | cons h1 h2 =>
      exact ⟨_, _, rfl, gNames_of is (fun j hj => hL j (List.mem_cons_of_mem _ hj)) (by simpa using hl) h2 (hρ.set h1) fun σ' o r => q σ' ((OnlyAt.set (hL i List.mem_cons_self)).trans o) r⟩
/-- G: a part of the heap in which the item and the slots' data lie -/
theorem tgG_of {K : PySem.W.Frag} {G H : Hp} {t : Tgt} {v : V} {d : PyData} {σ : St} {ρ ρ' : Env} {Q : St → Hp → Prop} (s : Same G H) (hd : Dp K G v d) (hρ : DpS K G σ ρ) (e : bindT t d ρ = .ok ρ') (q : ∀ σ', OnlyAt t.slots σ σ' → DpS K G σ' ρ' → Q σ' H) : tgG K t v σ H Q := by
  cases t with
  | one i =>
    cases e
    exact q _ (.set (by simp [Tgt.slots])) (hρ.set hd)
  | tup is =>
    cases d with
    | tuple ds =>
      unfold bindT at e
      dsimp only at e
      split at e
      · rename_i hl
        cases e
        obtain ⟨a, xs, rfl, hs, hv⟩ := dp_tup hd
        exact ⟨a, xs, rfl, by
          rcases hs with (h | ⟨o, h⟩) | h
          · exact .inl (.inl (s _ _ h))
          · exact .inl (.inr ⟨o, s _ _ h⟩)
          · exact .inr h, by rw [hv.len]; exact hl, gNames_of is (fun i hi => hi) hl hv hρ q⟩
      · cases e
    | _ => cases e
section
variable {X : Cx} {pos : Pos}
theorem g_one (i : Nat) {x : Str} (hN : X.N.Nodup) (hi : X.N[i]? = some x := by rfl) (hx : Loc X.env.scope x := by first | exact Or.inl rfl | exact Or.inr rfl) (hf : X.fn x = true ∨ X.env.scope.names.lookup x = some .local := by first | exact .inl rfl | exact .inr rfl | assumption) : DG X (.Name x pos) (.one i) := pg_name hN hi hx hf
theorem gs_nil : PGs X [] (gNames []) := pgs_nil
theorem gs_cons (i : Nat) {x : Str} {es : List Expr} {is : List Nat} (hN : X.N.Nodup) (h2 : PGs X es (gNames is)) (hi : X.N[i]? = some x := by rfl) (hx : Loc X.env.scope x := by first | exact Or.inl rfl | exact Or.inr rfl) (hf : X.fn x = true ∨ X.env.scope.names.lookup x = some .local := by first | exact .inl rfl | exact .inr rfl | assumption)
    (hs : (assignEach (.Name x pos :: es) X.env).map (·.2) = assign (.Name x pos) X.env :: (assignEach es X.env).map (·.2) := by rfl) : PGs X (.Name x pos :: es) (gNames (i :: is)) := pgs_cons (pg_name hN hi hx hf) h2 hs
theorem g_tup {es : List Expr} {k : Nat} {is : List Nat} (hc : X.calm = true) (h : PGs X es (gNames is)) (hn : (assignEach es X.env).length = is.length := by rfl) (hst : (assignEach es X.env).findIdx? (·.1) = none := by rfl) : DG X (.Tuple es k pos) (.tup is) := pg_tup hc h hn hst
end

/-! ### what is walked -/
abbrev Itr' := Env → Res (List PyData)
/-- what is given at a turn: an item, or a new tuple of items -/
def YD (K : PySem.W.Frag) (B : Hp) (H : Hp) (x : V) (H' : Hp) (d : PyData) : Prop :=
  (H' = H ∧ Dp K B x d) ∨ ∃ (T : Addr) (o : Obj) (us : List V) (es : List PyData), o.dict = none ∧ H T = none ∧ x = .ref T ∧ H' = upd H T (.frz o (.tup us)) ∧ DpAll K B us es ∧ d = .tuple es
structure WalkD (K : PySem.W.Frag) (J : It) (B : Hp) (ds : List PyData) : Prop where
  goes : ∀ i H, i < ds.length → Same B H → J.go i H
  stops : ∀ H, Same B H → J.stop ds.length H
  yields : ∀ i H x H', i < ds.length → Same B H → J.yld i H x H' → ∃ d, ds[i]? = some d ∧ YD K B H x H' d
def PostI (K : PySem.W.Frag) (mg : Str → Option Value) (W : WX) (σ : St) (H : Hp) (R : It → Hp → Prop) : Res (List PyData) → Prop
  | .ok ds => ∀ J H', Same H H' → WalkD K J H' ds → R J H'
  | .err c => ∃ C, mg c = some (.ref C) ∧ ∀ (d : D0) H', Same H H' → W (.ref C) d σ H'
  | .bad => False
def tDI (K : PySem.W.Frag) (mg : Str → Option Value) (W : WX) (f : Itr') : TI := fun σ H R => ∃ ρ, DpS K H σ ρ ∧ PostI K mg W σ H R (f ρ)
abbrev DI (X : Cx) (W : WX) (tg e : Expr) (f : Itr') : Prop := PI X tg e (tDI X.K X.mg W f)
theorem piImp {X : Cx} {tg e : Expr} {t t' : TI} (h : PI X tg e t) (k : ∀ σ H Q, t' σ H Q → t σ H Q) : PI X tg e t' := ⟨fun pins s σ H Q I q => h.run pins s σ H Q I (k σ H Q q)⟩
theorem WalkD.of {K : PySem.W.Frag} {J : It} {B : Hp} {ds : List PyData} {n : Nat} {G : Hp → Prop} {Y : Nat → Hp → V → Hp → Prop} (w : Walk J n G Y) (hn : n = ds.length) (hG : ∀ H, Same B H → G H) (hY : ∀ i H x H', i < n → Same B H → Y i H x H' → ∃ d, ds[i]? = some d ∧ YD K B H x H' d) : WalkD K J B ds := by
  subst hn
  exact ⟨fun i H hi s => w.goes i H hi (hG H s), fun H s => w.stops H (hG H s), fun i H x H' hi s y => hY i H x H' hi s (w.yields i H x H' hi (hG H s) y)⟩
theorem WalkD.walk {K : PySem.W.Frag} {J : It} {B : Hp} {ds : List PyData} (w : WalkD K J B ds) : Walk J ds.length (fun H => Same B H) (fun i H x H' => ∃ d, ds[i]? = some d ∧ YD K B H x H' d) := ⟨w.goes, w.stops, w.yields⟩
theorem Same.sqt {K : PySem.W.Frag} {H H' : Hp} {a : Addr} {xs : List V} (s : Same H H') (h : SqT K H a xs) : SqT K H' a xs := by
  rcases h with (h | ⟨o, h⟩) | h
  · exact .inl (.inl (s _ _ h))
  · exact .inl (.inr ⟨o, s _ _ h⟩)
  · exact .inr h
section
variable {K : PySem.W.Frag} {mg : Str → Option Value} {W : WX} {σ : St} {H H' : Hp}
theorem PostI.mono {R : It → Hp → Prop} {r : Res (List PyData)} (h : PostI K mg W σ H R r) (s : Same H H') : PostI K mg W σ H' R r := by
  cases r with
  | ok d => exact fun J H2 s2 q => h J H2 (s.trans s2) q
  | err c =>
    obtain ⟨C, h1, h2⟩ := h
    exact ⟨C, h1, fun d H2 s2 => h2 d H2 (s.trans s2)⟩
  | bad => exact h
theorem Post.bindI {R : It → Hp → Prop} {r : Res PyData} {k : PyData → Res (List PyData)} (h : PostI K mg W σ H R (r.bind k)) :
    Post K mg W σ H (fun v H' => ∃ d, r = .ok d ∧ Same H H' ∧ Dp K H' v d ∧ PostI K mg W σ H' R (k d)) r := by
  cases r with
  | ok d => exact fun v H2 s2 q => ⟨d, rfl, s2, q, PostI.mono (r := k d) h s2⟩
  | err c => exact h
  | bad => exact h
theorem walkL {a : Addr} {vs : List V} {ds : List PyData} (hs : SqL K H a vs) (hv : DpAll K H vs ds) : WalkD K (Itl K a) H ds :=
  .of walk_list hv.len (fun H' s => s.seq hs) fun i H1 x H' hi s ⟨e, y⟩ => by
    obtain ⟨d, h1, h2⟩ := hv.getV y
    exact ⟨d, h1, .inl ⟨e, h2⟩⟩
theorem walkT {a : Addr} {vs : List V} {ds : List PyData} (hs : SqT K H a vs) (hv : DpAll K H vs ds) : WalkD K (Itt K a) H ds :=
  .of walk_tup hv.len (fun H' s => Same.sqt s hs) fun i H1 x H' hi s ⟨e, y⟩ => by
    obtain ⟨d, h1, h2⟩ := hv.getV y
    exact ⟨d, h1, .inl ⟨e, h2⟩⟩
end
/-- a list or a tuple -/
def iSq (K : PySem.W.Frag) (tl : TE) : TI := fun σ H R => tl σ H fun x H1 => ∃ a, x = .ref a ∧ (((∃ xs, SqL K H1 a xs) ∧ R (Itl K a) H1) ∨ ((∃ xs, SqT K H1 a xs) ∧ R (Itt K a) H1))
theorem pi_sq {X : Cx} {tg l : Expr} {tl : TE} (hl : PE X l tl) : PI X tg l (iSq X.K tl) := by
  refine ⟨fun pins s σ H R I h => ?_⟩
  refine thn (hl.run pins s σ H _ I h) fun v s1 ⟨x, H1, I1, r1, q1⟩ => ?_
  obtain ⟨a, e, ⟨⟨xs, hq⟩, q⟩ | ⟨⟨xs, hq⟩, q⟩⟩ := q1
  · subst e
    cases r1
    obtain ⟨its, rv, p, hz⟩ := I1.list hq
    refine wpAny_pyIter_list p.isList ?_
    refine ⟨s1.heap.objs.size, [s1.heap.objs.size], _, _, H1, rfl, I1.kept (t' := s1.toks) fun b o e => Heap.get?_push_of_some _ e, turn_list a _, ⟨_, Heap.get?_push_size _ rfl, rfl, rfl⟩, fun b hb => ?_, q⟩
    have e : b = s1.heap.objs.size := by simpa using hb
    subst e
    exact I1.fpOk (Nat.le_refl _) (I1.hok.fresh (Nat.le_refl _))
  · subst e
    cases r1
    obtain ⟨its, rv, p, hz⟩ := I1.tuple hq
    refine wpAny_pyIter_tuple (show s1.heap.IsTuple a its.toArray from p) ?_
    refine ⟨s1.heap.objs.size, [s1.heap.objs.size], _, _, H1, rfl, I1.kept (t' := s1.toks) fun b o e => Heap.get?_push_of_some _ e, turn_tuple a _, ⟨_, Heap.get?_push_size _ rfl, rfl, rfl⟩, fun b hb => ?_, q⟩
    have e : b = s1.heap.objs.size := by simpa using hb
    subst e
    exact I1.fpOk (Nat.le_refl _) (I1.hok.fresh (Nat.le_refl _))
def items : PyData → Res (List PyData)
  | .list xs => .ok xs
  | .tuple xs => .ok xs
  | _ => .bad
@[simp] theorem items_list (xs : List PyData) : items (.list xs) = .ok xs := rfl
@[simp] theorem items_tuple (xs : List PyData) : items (.tuple xs) = .ok xs := rfl
def itSq (f : Ex) : Itr' := fun ρ => (f ρ).bind items
def rangeD (lo hi : Int) : List PyData := (List.range (hi - lo).toNat).map fun (i : Nat) => .int (lo + (i : Int))
theorem rangeD_length (lo hi : Int) : (rangeD lo hi).length = (hi - lo).toNat := by unfold rangeD; rw [List.length_map, List.length_range]
theorem rangeD_get {lo hi : Int} {i : Nat} (h : i < (hi - lo).toNat) : (rangeD lo hi)[i]? = some (.int (lo + (i : Int))) := by
  unfold rangeD
  rw [List.getElem?_map, List.getElem?_range h]
  rfl
def inB (i : Int) : Prop := -1000000 ≤ i ∧ i ≤ 1000000
instance (i : Int) : Decidable (inB i) := by unfold inB; infer_instance
def itR1 (f : Ex) : Itr' := fun ρ => (f ρ).bind fun x => (asI x).bind fun n => if inB n then .ok (rangeD 0 n) else .bad
def itR2 (f g : Ex) : Itr' := fun ρ => (f ρ).bind fun x => (g ρ).bind fun y => (asI x).bind fun m => (asI y).bind fun n => if inB m ∧ inB n then .ok (rangeD m n) else .bad
def enumFrom (i : Nat) : List PyData → List PyData
  | [] => []
  | d :: r => .tuple [.int (i : Int), d] :: enumFrom (i + 1) r
theorem enumFrom_length : ∀ (ds : List PyData) (i : Nat), (enumFrom i ds).length = ds.length
  | [], _ => rfl
  | _ :: r, i => congrArg (· + 1) (enumFrom_length r (i + 1))
theorem enumFrom_get : ∀ {ds : List PyData} {i k : Nat} {d : PyData}, ds[k]? = some d → (enumFrom i ds)[k]? = some (.tuple [.int ((i + k : Nat) : Int), d])
  | [], _, _, _, h => by simp at h
  | _ :: _, i, 0, _, h => by
    simp at h
    subst h
    rfl
  | _ :: r, i, k + 1, d, h => by
    have q := enumFrom_get (ds := r) (i := i + 1) (k := k) (d := d) (by simpa using h)
    show (enumFrom (i + 1) r)[k]? = _
    rw [q]
    congr 5
    omega
def zipD : List PyData → List PyData → List PyData
  | x :: xs, y :: ys => .tuple [x, y] :: zipD xs ys
  | _, _ => []
theorem zipD_length : ∀ (xs ys : List PyData), (zipD xs ys).length = min xs.length ys.length
  | [], _ => by simp [zipD]
  | _ :: _, [] => by simp [zipD]
  | _ :: xs, _ :: ys => by simp [zipD, zipD_length xs ys]
theorem zipD_get : ∀ {xs ys : List PyData} {i : Nat} {x y : PyData}, xs[i]? = some x → ys[i]? = some y → (zipD xs ys)[i]? = some (.tuple [x, y])
  | [], _, _, _, _, h, _ => by simp at h
  | _ :: _, [], _, _, _, _, h => by simp at h
  | _ :: _, _ :: _, 0, _, _, h, h' => by
    simp at h h'
    subst h h'
    rfl
  | _ :: xs, _ :: ys, i + 1, x, y, h, h' => zipD_get (xs := xs) (ys := ys) (i := i) (by simpa using h) (by simpa using h')
def asL : PyData → Res (List PyData)
  | .list xs => .ok xs
  | _ => .bad
def itEnum (f : Ex) : Itr' := fun ρ => (f ρ).bind fun x => (asL x).bind fun ds => .ok (enumFrom 0 ds)
def itZip (f g : Ex) : Itr' := fun ρ => (f ρ).bind fun x => (g ρ).bind fun y => (asL x).bind fun xs => (asL y).bind fun ys => .ok (zipD xs ys)
section
variable {X : Cx} {W : WX} {tg a b : Expr} {fa fb : Ex} {p pos : Pos}
theorem i_sq (h : DE X W a fa) : DI X W tg a (itSq fa) := by
  refine piImp (pi_sq h) fun σ H Q ⟨ρ, hρ, h⟩ => ⟨ρ, hρ, (Post.bindI h).imp fun v H1 _ ⟨d, _, s1, rx, h1⟩ => ?_⟩
  cases d with
  | list ds =>
    obtain ⟨q, vs, rfl, hs, hv⟩ := dp_lst rx
    exact ⟨q, rfl, .inl ⟨⟨vs, hs⟩, h1 _ H1 (Same.refl _) (walkL hs hv)⟩⟩
  | tuple ds =>
    obtain ⟨q, vs, rfl, hs, hv⟩ := dp_tup rx
    exact ⟨q, rfl, .inr ⟨⟨vs, hs⟩, h1 _ H1 (Same.refl _) (walkT hs hv)⟩⟩
  | _ => exact h1.elim
theorem walkR {K : PySem.W.Frag} {H : Hp} (lo hi : Int) : WalkD K (Itr lo (hi - lo).toNat) H (rangeD lo hi) :=
  .of walk_range (rangeD_length lo hi).symm (fun _ _ => trivial) fun i H1 x H' hi s ⟨e, y⟩ => ⟨_, rangeD_get hi, .inl ⟨e, by rw [y]; exact .int _⟩⟩
theorem i_range1 (hm : X.mg "range" = none) (h : DE X W a fa) (hg : Gl X "range" := by rfl) (hs : starEach [a] X.env = [(false, eval a X.env)] := by rfl) (hs' : starEach [a] X.env = (false, eval a X.env) :: starEach [] X.env := by rfl) : DI X W tg (.Call (.Name "range" p) [a] [] pos) (itR1 fa) := by
  refine piImp (pi_range1 hg hm (pa_cons h pa_nil hs') hs) fun σ H Q ⟨ρ, hρ, h⟩ => ⟨ρ, hρ, (Post.bindI h).imp fun v H1 _ ⟨d, _, s1, rx, h1⟩ => ?_⟩
  cases d with
  | int n =>
    have h1 : PostI X.K X.mg W σ H1 Q (if inB n then .ok (rangeD 0 n) else .bad) := h1
    by_cases hb : inB n
    · rw [if_pos hb] at h1
      unfold inB at hb
      refine ⟨n, by rw [dp_int rx], by omega, by omega, ?_⟩
      have w := walkR (K := X.K) (H := H1) 0 n
      rw [Int.sub_zero] at w
      exact h1 _ H1 (Same.refl _) w
    · rw [if_neg hb] at h1
      exact h1.elim
  | _ => exact h1.elim
theorem i_range2 (hm : X.mg "range" = none) (ha : DE X W a fa) (hb : DE X W b fb) (hg : Gl X "range" := by rfl) (hs : starEach [a, b] X.env = [(false, eval a X.env), (false, eval b X.env)] := by rfl) (hs2 : starEach [b] X.env = [(false, eval b X.env)] := by rfl) (hs' : starEach [a, b] X.env = (false, eval a X.env) :: starEach [b] X.env := by rfl) (hs2' : starEach [b] X.env = (false, eval b X.env) :: starEach [] X.env := by rfl) :
    DI X W tg (.Call (.Name "range" p) [a, b] [] pos) (itR2 fa fb) := by
  refine piImp (pi_range2 hg hm (pa_cons ha (pa_cons hb pa_nil hs2') hs') hs hs2) fun σ H Q ⟨ρ, hρ, h⟩ => ⟨ρ, hρ, (Post.bindI h).imp fun v H1 _ ⟨d, _, s1, rx, h1⟩ => ⟨ρ, hρ.mono s1, (Post.bindI h1).imp fun u H2 _ ⟨e, _, s2, ry, h2⟩ => ?_⟩⟩
  cases d with
  | int m =>
    cases e with
    | int n =>
      have h2 : PostI X.K X.mg W σ H2 Q (if inB m ∧ inB n then .ok (rangeD m n) else .bad) := h2
      by_cases hb : inB m ∧ inB n
      · rw [if_pos hb] at h2
        unfold inB at hb
        exact ⟨m, n, by rw [dp_int rx, dp_int ry], ⟨by omega, by omega, by omega, by omega⟩, h2 _ H2 (Same.refl _) (walkR m n)⟩
      · rw [if_neg hb] at h2
        exact h2.elim
    | _ => exact h2.elim
  | _ => exact h2.elim
end
section
variable {X : Cx} {W : WX} {a b : Expr} {fa fb : Ex} {p pos tpos : Pos} {elts : List Expr} {kk : Nat}
end

/-! ### list(range(..)) -/
def eLstR1 (f : Ex) : Ex := fun ρ => (f ρ).bind fun x => (asI x).bind fun n => if inB n then .ok (.list (rangeD 0 n)) else .bad
def eLstR2 (f g : Ex) : Ex := fun ρ => (f ρ).bind fun x => (g ρ).bind fun y => (asI x).bind fun m => (asI y).bind fun n => if inB m ∧ inB n then .ok (.list (rangeD m n)) else .bad
theorem dp_rg {K : PySem.W.Frag} {H : Hp} (a b : Int) : DpAll K H (rgV a b) (rangeD a b) := by
  unfold rgV rangeD
  generalize List.range (b - a).toNat = l
  induction l with
  | nil => exact .nil
  | cons x r ih => exact .cons (.int _) ih
section
variable {X : Cx} {W : WX} {a b : Expr} {fa fb : Ex} {p p2 pos pos2 : Pos}
theorem d_lstR1 (hc : X.calm = true) (hm : X.mg "list" = none) (hm2 : X.mg "range" = none) (h : DE X W a fa) (hg : Gl X "list" := by rfl) (hg2 : Gl X "range" := by rfl) (na : starEach [a] X.env = (false, eval a X.env) :: starEach [] X.env := by rfl)
    (nb : starEach [.Call (.Name "range" p2) [a] [] pos2] X.env = (false, eval (.Call (.Name "range" p2) [a] [] pos2) X.env) :: starEach [] X.env := by rfl) : DE X W (.Call (.Name "list" p) [.Call (.Name "range" p2) [a] [] pos2] [] pos) (eLstR1 fa) := by
  refine peImp (pe_listRg hc hg hm (prg_1 hg2 hm2 h na) nb) fun σ H Q ⟨ρ, hρ, h⟩ => ⟨ρ, hρ, (Post.bind h).imp fun v H1 _ ⟨d, _, s1, rx, h1⟩ => ?_⟩
  cases d with
  | int n =>
    have h1 : Post X.K X.mg W σ H1 Q (if inB n then .ok (.list (rangeD 0 n)) else .bad) := h1
    by_cases hb : inB n
    · rw [if_pos hb] at h1
      unfold inB at hb
      exact ⟨n, dp_int rx, ⟨by omega, by omega, by omega, by omega, by omega⟩, fun q hq => h1 _ _ (sameUpd hq) (.lst (.inl (.inl upd_same)) (dp_rg 0 n))⟩
    · rw [if_neg hb] at h1
      exact h1.elim
  | _ => exact h1.elim
theorem d_lstR2 (hc : X.calm = true) (hm : X.mg "list" = none) (hm2 : X.mg "range" = none) (ha : DE X W a fa) (hb : DE X W b fb) (hg : Gl X "list" := by rfl) (hg2 : Gl X "range" := by rfl) (na : starEach [a, b] X.env = (false, eval a X.env) :: starEach [b] X.env := by rfl) (na2 : starEach [b] X.env = (false, eval b X.env) :: starEach [] X.env := by rfl)
    (nb : starEach [.Call (.Name "range" p2) [a, b] [] pos2] X.env = (false, eval (.Call (.Name "range" p2) [a, b] [] pos2) X.env) :: starEach [] X.env := by rfl) (hpl : ((backTo pos2 (starEach [b] X.env)).any fun x => x.fst) = false := by rfl) : DE X W (.Call (.Name "list" p) [.Call (.Name "range" p2) [a, b] [] pos2] [] pos) (eLstR2 fa fb) := by
  refine peImp (pe_listRg hc hg hm (prg_2 hg2 hm2 ha hb na na2 hpl) nb) fun σ H Q ⟨ρ, hρ, h⟩ => ⟨ρ, hρ, (Post.bind h).imp fun v H1 _ ⟨d, _, s1, rx, h1⟩ => ⟨ρ, hρ.mono s1, (Post.bind h1).imp fun u H2 _ ⟨e, _, s2, ry, h2⟩ => ?_⟩⟩
  cases d with
  | int m =>
    cases e with
    | int n =>
      have h2 : Post X.K X.mg W σ H2 Q (if inB m ∧ inB n then .ok (.list (rangeD m n)) else .bad) := h2
      by_cases hb : inB m ∧ inB n
      · rw [if_pos hb] at h2
        unfold inB at hb
        exact ⟨m, n, dp_int rx, dp_int ry, ⟨by omega, by omega, by omega, by omega, by omega⟩, fun q hq => h2 _ _ (sameUpd hq) (.lst (.inl (.inl upd_same)) (dp_rg m n))⟩
      · rw [if_neg hb] at h2
        exact h2.elim
    | _ => exact h2.elim
  | _ => exact h2.elim
end

/-! ### list comprehensions -/
def wipeD (ρ : Env) : List Nat → Env
  | [] => ρ
  | v :: vs => (wipeD ρ vs).set v none
def noErr {α : Type} : Res α → Res α
  | .err _ => .bad
  | r => r
@[simp] theorem noErr_ok {α : Type} (a : α) : noErr (.ok a) = .ok a := rfl
def compD (t : Tgt) (c : Te) (e : Ex) (ρ : Env) : List PyData → Res (List PyData)
  | [] => .ok []
  | d :: ds => (bindT t d ρ).bind fun ρ1 => (noErr (c ρ1)).bind fun k => if k = true then (noErr (e ρ1)).bind fun x => (compD t c e ρ ds).bind fun xs => .ok (x :: xs) else compD t c e ρ ds
def eCompL (it : Itr') (t : Tgt) (c : Te) (e : Ex) : Env → Res (List PyData) := fun ρ => (it ρ).bind fun ds => if ds.length < 16777216 then compD t c e (wipeD ρ t.slots) ds else .bad
def eComp (it : Itr') (t : Tgt) (c : Te) (e : Ex) : Ex := fun ρ => (eCompL it t c e ρ).bind fun xs => .ok (.list xs)
def PostC (K : PySem.W.Frag) (mg : Str → Option Value) (W : WX) (σ : St) (H : Hp) (Q : VK) (it : Itr') (t : Tgt) (c : Te) (e : Ex) (ρ : Env) : Prop := match it ρ with
  | .ok ds => ds.length < 16777216 ∧ ∃ xs, compD t c e (wipeD ρ t.slots) ds = .ok xs ∧ ∀ D vs H', H D = none → Same H (cut [D] H') → H' D = some (.lst vs) → DpAll K (cut [D] H') vs xs → Q (.ref D) H'
  | .err c => ∃ C, mg c = some (.ref C) ∧ ∀ (d : D0) H', Same H H' → W (.ref C) d σ H'
  | .bad => False
def teYes : Te := fun _ => .ok true
abbrev W0 : WX := fun _ _ _ _ => False
abbrev DTs (X : Cx) (W : WX) (es : List Expr) (f : Te) : Prop := PTs X es (tDT X.K X.mg W f)
theorem ts_nil {X : Cx} {W : WX} : DTs X W [] teYes := ⟨fun pins s σ H Q I ⟨ρ, _, h⟩ => (pts_nil (X := X)).run pins s σ H Q I (h H (Same.refl _))⟩
theorem ts_one {X : Cx} {W : WX} {c : Expr} {f : Te} (h : DT X W c f) : DTs X W [c] f := pts_one h
theorem wipe_get_in {σ : St} {i : Nat} : ∀ {vs : List Nat}, i ∈ vs → i < σ.length → (wipe σ vs)[i]? = some none
  | [], h, _ => by simp at h
  | v :: vs, h, hi => by
    show ((wipe σ vs).set v none)[i]? = _
    by_cases e : v = i
    · subst e
      rw [List.getElem?_set_self (by rw [wipe_length]; exact hi)]
    · rw [List.getElem?_set_ne e]
      exact wipe_get_in ((List.mem_cons.mp h).resolve_left (Ne.symm e)) hi
theorem wipe_same {σ σ' : St} {vs : List Nat} (h : OnlyAt vs σ σ') : wipe σ' vs = wipe σ vs := by
  apply List.ext_getElem?
  intro i
  by_cases hi : i ∈ vs
  · by_cases hl : i < σ.length
    · rw [wipe_get_in hi hl, wipe_get_in hi (by rw [h.1]; exact hl)]
    · rw [List.getElem?_eq_none (by rw [wipe_length, h.1]; omega), List.getElem?_eq_none (by rw [wipe_length]; omega)]
  · rw [wipe_out hi, wipe_out hi]
    exact h.2 i hi
theorem wipe_idem {σ : St} {vs : List Nat} : OnlyAt vs σ (wipe σ vs) := ⟨wipe_length σ vs, fun _ hi => wipe_out hi⟩
theorem dps_wipe {K : PySem.W.Frag} {H : Hp} {σ : St} {ρ : Env} (h : DpS K H σ ρ) : ∀ vs : List Nat, DpS K H (wipe σ vs) (wipeD ρ vs)
  | [] => h
  | v :: vs => by
    have ih := dps_wipe h vs
    refine ⟨by show ((wipeD ρ vs).set v none).length = ((wipe σ vs).set v none).length; rw [List.length_set, List.length_set, ih.len], fun j e hj => ?_⟩
    have hj : ((wipeD ρ vs).set v none)[j]? = some (some e) := hj
    show ∃ w, ((wipe σ vs).set v none)[j]? = some (some w) ∧ _
    by_cases hvj : v = j
    · subst hvj
      by_cases hl : v < (wipeD ρ vs).length
      · rw [List.getElem?_set_self hl] at hj
        cases hj
      · rw [List.getElem?_eq_none (by rw [List.length_set]; omega)] at hj
        cases hj
    · rw [List.getElem?_set_ne hvj] at hj
      rw [List.getElem?_set_ne hvj]
      exact ih.get j e hj
theorem compD_app {t : Tgt} {c : Te} {e : Ex} {ρ : Env} : ∀ {ds : List PyData} {xs : List PyData} {i : Nat}, compD t c e ρ ds = .ok xs → i ≤ ds.length → ∃ ys zs, compD t c e ρ (ds.take i) = .ok ys ∧ compD t c e ρ (ds.drop i) = .ok zs ∧ xs = ys ++ zs
  | [], xs, i, h, _ => by
    cases h
    refine ⟨[], [], ?_, ?_, rfl⟩ <;> simp [compD]
  | d :: ds, xs, 0, h, _ => ⟨[], xs, rfl, h, rfl⟩
  | d :: ds, xs, i + 1, h, hi => by
    unfold compD at h
    rw [List.take_succ_cons, List.drop_succ_cons]
    cases e1 : bindT t d ρ with
    | ok ρ1 =>
      rw [e1] at h
      simp only [Res.bind_ok] at h
      cases e2 : noErr (c ρ1) with
      | ok k =>
        rw [e2] at h
        simp only [Res.bind_ok] at h
        cases k with
        | true =>
          rw [if_pos rfl] at h
          cases e3 : noErr (e ρ1) with
          | ok x =>
            rw [e3] at h
            simp only [Res.bind_ok] at h
            cases e4 : compD t c e ρ ds with
            | ok ws =>
              rw [e4] at h
              cases h
              obtain ⟨ys, zs, g1, g2, g3⟩ := compD_app (i := i) e4 (by simpa using hi)
              refine ⟨x :: ys, zs, ?_, g2, by rw [g3]; rfl⟩
              unfold compD
              simp [e1, e2, e3, g1]
            | err q => rw [e4] at h; cases h
            | bad => rw [e4] at h; cases h
          | err q => rw [e3] at h; cases h
          | bad => rw [e3] at h; cases h
        | false =>
          rw [if_neg Bool.false_ne_true] at h
          obtain ⟨ys, zs, g1, g2, g3⟩ := compD_app (i := i) h (by simpa using hi)
          refine ⟨ys, zs, ?_, g2, g3⟩
          unfold compD
          simp [e1, e2, g1]
      | err q => rw [e2] at h; cases h
      | bad => rw [e2] at h; cases h
    | err q => rw [e1] at h; cases h
    | bad => rw [e1] at h; cases h
theorem compD_noerr {t : Tgt} {c : Te} {e : Ex} {ρ : Env} {q : Str} : ∀ {ds : List PyData}, compD t c e ρ ds ≠ .err q
  | [] => fun h => by cases h
  | d :: ds => fun h => by
    unfold compD at h
    cases e1 : bindT t d ρ with
    | ok ρ1 =>
      rw [e1] at h
      simp only [Res.bind_ok] at h
      cases e2 : c ρ1 with
      | ok k =>
        rw [e2] at h
        simp only [noErr, Res.bind_ok] at h
        cases k with
        | true =>
          rw [if_pos rfl] at h
          cases e3 : e ρ1 with
          | ok x =>
            rw [e3] at h
            simp only [noErr, Res.bind_ok] at h
            cases e4 : compD t c e ρ ds with
            | ok ws => rw [e4] at h; cases h
            | err q => exact compD_noerr e4
            | bad => rw [e4] at h; cases h
          | err q => rw [e3] at h; cases h
          | bad => rw [e3] at h; cases h
        | false =>
          rw [if_neg Bool.false_ne_true] at h
          exact compD_noerr h
      | err q => rw [e2] at h; cases h
      | bad => rw [e2] at h; cases h
    | err q =>
      cases t with
      | one i => cases e1
      | tup is =>
        cases d <;> simp only [bindT] at e1 <;> first | cases e1 | (split at e1 <;> cases e1)
    | bad => rw [e1] at h; cases h
theorem dp_yd {K : PySem.W.Frag} {B H H' : Hp} {x : V} {d : PyData} (s : Same B H) (y : YD K B H x H' d) : Same H H' ∧ Dp K H' x d := by
  rcases y with ⟨rfl, h⟩ | ⟨T, o, us, es, hdn, hT, rfl, rfl, ha, rfl⟩
  · exact ⟨Same.refl _, dpMono s h⟩
  · exact ⟨sameUpd hT, .tup (.inl ⟨o, upd_same, hdn⟩) (dpAllMono (s.trans (sameUpd hT)) ha)⟩
theorem cut_upd {A : List Addr} {H : Hp} {T : Addr} {o : HO} (h : T ∉ A) : cut A (upd H T o) = upd (cut A H) T o := by
  funext b
  unfold cut upd
  by_cases h1 : b ∈ A
  · have : b ≠ T := fun e => h (e ▸ h1)
    simp [h1, this]
  · simp [h1]
theorem cut_upd_in {A : List Addr} {H : Hp} {T : Addr} {o : HO} (h : T ∈ A) : cut A (upd H T o) = cut A H := by
  funext b
  unfold cut upd
  by_cases h1 : b ∈ A
  · simp [h1]
  · have : b ≠ T := fun e => h1 (e ▸ h)
    simp [h1, this]
/-- the reading of a comprehension over data -/
theorem tLc_of {K : PySem.W.Frag} {mg : Str → Option Value} {W : WX} {it : Itr'} {t : Tgt} {c : Te} {e : Ex} {σ : St} {H : Hp} {Q : VK} (h : ∃ ρ, DpS K H σ ρ ∧ PostC K mg W σ H Q it t c e ρ) :
    tLc (tDI K mg W it) (tgG K t) (tDT K mg W0 c) (tFr (tD K mg W0 e)) t.slots σ H Q := by
  obtain ⟨ρ, hρ, h⟩ := h
  refine ⟨ρ, hρ, ?_⟩
  unfold PostC at h
  cases ei : it ρ with
  | err q => rw [ei] at h; exact h
  | bad => rw [ei] at h; exact h
  | ok ds =>
    rw [ei] at h
    obtain ⟨hlen, xs, ec, h⟩ := h
    · · intro J H1 s1 w D hD
        have hρ1 : DpS K H1 (wipe σ t.slots) (wipeD ρ t.slots) := dps_wipe (hρ.mono s1) _
        refine lc_it w.walk (fun i H' => Same H1 (cut [D] H') ∧ ∃ vs ys, H' D = some (.lst vs) ∧ DpAll K (cut [D] H') vs ys ∧ compD t c e (wipeD ρ t.slots) (ds.take i) = .ok ys ∧ vs.length ≤ i) ?_ ?_ ?_ ?_
        · have nD : ∀ b o, H1 b = some o → b ≠ D := fun b o q z => by rw [z, hD] at q; cases q
          refine ⟨fun b o q => ?_, [], [], upd_same, .nil, rfl, Nat.zero_le _⟩
          rw [cut_out (by simpa using nD b o q), upd_ne (nD b o q)]
          exact q
        · exact fun i H' _ ⟨s, _⟩ => s.trans cutSame
        · rintro i x H2 H3 hi ⟨s2, vs, ys, eD, hvs, hys, hl⟩ ⟨d, hd, y⟩
          have s2' : Same H1 H2 := s2.trans cutSame
          obtain ⟨s3, hx⟩ := dp_yd s2' y
          have eD3 : H3 D = some (.lst vs) := s3 _ _ eD
          -- in the heap without D
          have hxc : Dp K (cut [D] H3) x d := by
            rcases y with ⟨rfl, h⟩ | ⟨T, o, us, es, hdn, hT, rfl, rfl, ha, rfl⟩
            · exact dpMono s2 h
            · have nT : T ∉ [D] := fun z => by
                have e' : T = D := by simpa using z
                rw [e', eD] at hT; cases hT
              rw [cut_upd nT]
              have nT2 : cut [D] H2 T = none := by rw [cut_out nT]; exact hT
              exact .tup (.inl ⟨o, upd_same, hdn⟩) (dpAllMono (s2.trans (sameUpd nT2)) ha)
          have s3c : Same (cut [D] H2) (cut [D] H3) := cutMono s3
          have hρ3 : DpS K (cut [D] H3) (wipe σ t.slots) (wipeD ρ t.slots) := hρ1.mono (s2.trans s3c)
          have htake : ds.take (i + 1) = ds.take i ++ [d] := by rw [List.take_succ, hd]; rfl
          obtain ⟨_, _, ht1, ht2, _⟩ := compD_app (t := t) (c := c) (e := e) (ρ := wipeD ρ t.slots) (i := i) ec (Nat.le_of_lt hi)
          have hdrop : ds.drop i = d :: ds.drop (i + 1) := by
            obtain ⟨hi', e'⟩ := List.getElem?_eq_some_iff.mp hd
            rw [← e', ← List.drop_eq_getElem_cons hi']
          rw [hdrop] at ht2
          unfold compD at ht2
          cases eb : bindT t d (wipeD ρ t.slots) with
          | err q => rw [eb] at ht2; cases ht2
          | bad => rw [eb] at ht2; cases ht2
          | ok ρ2 =>
            rw [eb] at ht2
            simp only [Res.bind_ok] at ht2
            refine tgG_of cutSame hxc hρ3 eb fun σ2 o2 hρ2' => ⟨wipe_same (wipe_idem.trans o2), ?_⟩
            -- the data of the slots, in the heap without D: bind once more there
            cases ecn : c ρ2 with
            | err q => rw [ecn] at ht2; cases ht2
            | bad => rw [ecn] at ht2; cases ht2
            | ok k =>
              rw [ecn] at ht2
              simp only [noErr_ok, Res.bind_ok] at ht2
              have one : compD t c e (wipeD ρ t.slots) [d] = if k = true then (noErr (e ρ2)).bind fun x => .ok [x] else .ok [] := by
                unfold compD
                simp only [eb, ecn, Res.bind_ok, noErr_ok, compD]
              refine ⟨ρ2, hρ2'.mono cutSame, ?_⟩
              rw [ecn]
              intro H4 s4
              have eD4 : H4 D = some (.lst vs) := s4 _ _ eD3
              have s4c : Same (cut [D] H3) (cut [D] H4) := cutMono s4
              have app1 : ∀ zs, compD t c e (wipeD ρ t.slots) [d] = .ok zs → compD t c e (wipeD ρ t.slots) (ds.take (i + 1)) = .ok (ys ++ zs) := fun zs hz => by
                have ext : ∀ {l : List PyData} {ys zs : List PyData}, compD t c e (wipeD ρ t.slots) l = .ok ys → compD t c e (wipeD ρ t.slots) [d] = .ok zs → compD t c e (wipeD ρ t.slots) (l ++ [d]) = .ok (ys ++ zs) := by
                  intro l
                  induction l with
                  | nil => intro ys zs h1 h2; cases h1; simpa using h2
                  | cons a l ih =>
                    intro ys zs h1 h2
                    unfold compD at h1
                    show compD t c e (wipeD ρ t.slots) (a :: (l ++ [d])) = _
                    unfold compD
                    cases g1 : bindT t a (wipeD ρ t.slots) with
                    | err q => rw [g1] at h1; cases h1
                    | bad => rw [g1] at h1; cases h1
                    | ok ρ5 =>
                      rw [g1] at h1
                      simp only [Res.bind_ok] at h1 ⊢
                      cases g2 : noErr (c ρ5) with
                      | err q => rw [g2] at h1; cases h1
                      | bad => rw [g2] at h1; cases h1
                      | ok k5 =>
                        rw [g2] at h1
                        simp only [Res.bind_ok] at h1 ⊢
                        cases k5 with
                        | false =>
                          rw [if_neg Bool.false_ne_true] at h1 ⊢
                          exact ih h1 h2
                        | true =>
                          rw [if_pos rfl] at h1 ⊢
                          cases g3 : noErr (e ρ5) with
                          | err q => rw [g3] at h1; cases h1
                          | bad => rw [g3] at h1; cases h1
                          | ok x5 =>
                            rw [g3] at h1
                            simp only [Res.bind_ok] at h1 ⊢
                            cases g4 : compD t c e (wipeD ρ t.slots) l with
                            | err q => rw [g4] at h1; cases h1
                            | bad => rw [g4] at h1; cases h1
                            | ok ws =>
                              rw [g4] at h1
                              cases h1
                              rw [ih g4 h2]
                              rfl
                rw [htake]
                exact ext hys hz
              cases k with
              | false =>
                refine iteF ⟨s2.trans (s3c.trans s4c), vs, ys, eD4, dpAllMono (s3c.trans s4c) hvs, ?_, by omega⟩
                have z := app1 [] (by rw [one, if_neg Bool.false_ne_true])
                simpa using z
              | true =>
                rw [if_pos rfl] at ht2
                refine iteT ?_
                have hρ2c : DpS K (cut [D] H4) σ2 ρ2 := hρ2'.mono s4c
                cases ee : e ρ2 with
                | err q => rw [ee] at ht2; cases ht2
                | bad => rw [ee] at ht2; cases ht2
                | ok x' =>
                  have hA : Lsts [D] H4 := fun a ha => by
                    have e' : a = D := by simpa using ha
                    exact ⟨_, by rw [e']; exact eD4, .lst vs⟩
                  refine ⟨[D], hA, ρ2, hρ2c, ?_⟩
                  rw [ee]
                  intro v5 H5 s5 r5 n5
                  have eg : glue [D] H4 H5 D = some (.lst vs) := by rw [glue_in (by simp)]; exact eD4
                  refine ⟨vs, eg, by rw [sizeLine_eq]; omega, ?_⟩
                  have cg : cut [D] (upd (glue [D] H4 H5) D (.lst (vs ++ [v5]))) = H5 := by rw [cut_upd_in (by simp), glueCut n5]
                  refine ⟨?_, vs ++ [v5], ys ++ [x'], upd_same, ?_, ?_, ?_⟩
                  · rw [cg]; exact (s2.trans (s3c.trans s4c)).trans s5
                  · rw [cg]; exact (dpAllMono ((s3c.trans s4c).trans s5) hvs).app (.cons r5 .nil)
                  · exact app1 [x'] (by rw [one, if_pos rfl, ee]; rfl)
                  · rw [List.length_append, List.length_singleton]; omega
        · rintro H' ⟨s, vs, ys, eD, hvs, hys, _⟩
          rw [List.take_length, ec] at hys
          cases hys
          exact h D vs H' (s1.free hD) (s1.trans s) eD hvs
theorem postC_of {K : PySem.W.Frag} {mg : Str → Option Value} {W : WX} {it : Itr'} {t : Tgt} {c : Te} {e : Ex} {σ : St} {H : Hp} {Q : VK} {ρ : Env} (h : Post K mg W σ H Q (eComp it t c e ρ)) : PostC K mg W σ H Q it t c e ρ := by
  unfold PostC
  unfold eComp eCompL at h
  cases ei : it ρ with
  | err q => rw [ei] at h; exact h
  | bad => rw [ei] at h; exact h
  | ok ds =>
    rw [ei] at h
    simp only [Res.bind_ok] at h
    by_cases hlen : ds.length < 16777216
    · rw [if_pos hlen] at h
      cases ec : compD t c e (wipeD ρ t.slots) ds with
      | err q => exact absurd ec compD_noerr
      | bad => rw [ec] at h; exact h.elim
      | ok xs =>
        rw [ec] at h
        exact ⟨hlen, xs, ec, fun D vs H' hD s eD hvs => h _ H' (s.trans cutSame) (.lst (.inl (.inl eD)) (dpAllMono cutSame hvs))⟩
    · rw [if_neg hlen] at h
      exact h.elim
section
variable {X : Cx} {W : WX} {elt tg iter : Expr} {ifs : List Expr} {scope : Scope} {own : List (Str × Nat)} {pos : Pos} {it : Itr'} {t : Tgt} {c : Te} {e : Ex}
theorem d_comp (hc : X.calm = true) (hN : X.N.Nodup) (hi : DI X W tg iter it) (ok : BlkOk X.N X.env.scope scope own) (hsl : own.map (·.2) = t.slots)
    (hg : ∀ (s : Shared) (H : Hp) (C : Addr) (cl : List (Str × Addr)) (fp : List Addr), DG (X.blk s H scope (compEnvC scope cl C X.env) fp) tg t) (ht : ∀ (s : Shared) (H : Hp) (C : Addr) (cl : List (Str × Addr)) (fp : List Addr), DTs (X.blk s H scope (compEnvC scope cl C X.env) fp) W0 ifs c)
    (he : ∀ (s : Shared) (H : Hp) (C : Addr) (cl : List (Str × Addr)) (fp : List Addr), DE (X.blk s H scope (compEnvC scope cl C X.env) fp) W0 elt e) (hs : ∀ x, foldedSetIterable iter X.env x = pure x := by intro _; rfl) :
    DE X W (.ListComp elt [⟨tg, iter, ifs, 0⟩] scope pos) (eComp it t c e) :=
  peImp (pe_lc hc hN hi ok hg ht (fun s H C cl fp => pe_frame (he s H C cl fp)) hs) fun σ H Q ⟨ρ, hρ, h⟩ => by rw [hsl]; exact tLc_of ⟨ρ, hρ, postC_of h⟩
end
end L2.DL
set_option maxHeartbeats 2000000
namespace L2.DL
open PySem PySem.Spec PyProof.Rows

/-! ### statements: the frame's data, some slots hold lists of their own (own: slot, address) that may be changed -/
inductive SRes where
  | nx (ρ : Env) | ret (d : PyData) | brk (ρ : Env) | cnt (ρ : Env) | err (c : Str) (ρ : Env) | bad
abbrev Sf := Env → SRes
abbrev Ow := List (Nat × Addr)
abbrev AD (o : Ow) : List Addr := o.map (·.2)
abbrev ID (o : Ow) : List Nat := o.map (·.1)
/-- an own thing: a list, a dict -/
inductive OwnD (K : PySem.W.Frag) (B H : Hp) (a : Addr) : PyData → Prop
  | lst {vs : List V} {ds : List PyData} : H a = some (.lst vs) → DpAll K B vs ds → OwnD K B H a (.list ds)
  | dic {kvs : List (Key × V)} {ds : List (PyData × PyData)} : H a = some (.dK kvs) → DpK K B kvs ds → OwnD K B H a (.dict ds)
theorem OwnD.list {K : PySem.W.Frag} {B H : Hp} {a : Addr} {ds : List PyData} (h : OwnD K B H a (.list ds)) : ∃ vs, H a = some (.lst vs) ∧ DpAll K B vs ds := by
  cases h with
  | lst h1 h2 => exact ⟨_, h1, h2⟩
theorem OwnD.dict {K : PySem.W.Frag} {B H : Hp} {a : Addr} {ds : List (PyData × PyData)} (h : OwnD K B H a (.dict ds)) : ∃ kvs, H a = some (.dK kvs) ∧ DpK K B kvs ds := by
  cases h with
  | dic h1 h2 => exact ⟨_, h1, h2⟩
theorem OwnD.mono {K : PySem.W.Frag} {B B' H H' : Hp} {a : Addr} {d : PyData} (h : OwnD K B H a d) (e : H' a = H a) (s : Same B B') : OwnD K B' H' a d := by
  cases h with
  | lst h1 h2 => exact .lst (by rw [e]; exact h1) (dpAllMono s h2)
  | dic h1 h2 => exact .dic (by rw [e]; exact h1) (dpKMono s h2)
theorem OwnD.dp {K : PySem.W.Frag} {B H : Hp} {a : Addr} {d : PyData} (h : OwnD K B H a d) (s : Same B H) : Dp K H (.ref a) d := by
  cases h with
  | lst h1 h2 => exact .lst (.inl (.inl h1)) (dpAllMono s h2)
  | dic h1 h2 => exact .dic (.inl h1) (dpKMono s h2)
theorem OwnD.own1 {K : PySem.W.Frag} {B H : Hp} {a : Addr} {d : PyData} (h : OwnD K B H a d) : ∃ o, H a = some o ∧ Own1 o := by
  cases h with
  | lst h1 h2 => exact ⟨_, h1, .lst _⟩
  | dic h1 h2 => exact ⟨_, h1, .dK _⟩
theorem Same.eq_of {H H' : Hp} (s : Same H H') {a : Addr} {o : HO} (e : H a = some o) : H' a = H a := (s _ _ e).trans e.symm
structure SRep (K : PySem.W.Frag) (G : Hp) (o : Ow) (H : Hp) (σ : St) (ρ : Env) : Prop where
  len : ρ.length = σ.length
  get : ∀ (i : Nat) (d : PyData), ρ[i]? = some (some d) → i ∉ ID o → ∃ v, σ[i]? = some (some v) ∧ Dp K (cut (AD o) H) v d
  own : ∀ i a, (i, a) ∈ o → ∃ d, ρ[i]? = some (some d) ∧ σ[i]? = some (some (.ref a)) ∧ OwnD K (cut (AD o) H) H a d
  nda : (AD o).Nodup
  ndi : (ID o).Nodup
  base : Same G (cut (AD o) H)
theorem wipeD_length (ρ : Env) : ∀ vs : List Nat, (wipeD ρ vs).length = ρ.length
  | [] => rfl
  | v :: vs => by unfold wipeD; rw [List.length_set, wipeD_length ρ vs]
theorem wipeD_get {ρ : Env} {i : Nat} {d : PyData} : ∀ {vs : List Nat}, (wipeD ρ vs)[i]? = some (some d) → ρ[i]? = some (some d) ∧ i ∉ vs
  | [], h => ⟨h, by simp⟩
  | v :: vs, h => by
    unfold wipeD at h
    by_cases hi : v = i
    · subst hi
      by_cases hv : v < (wipeD ρ vs).length
      · rw [List.getElem?_set_self hv] at h; cases h
      · rw [List.getElem?_eq_none (by rw [List.length_set]; omega)] at h; cases h
    · rw [List.getElem?_set_ne hi] at h
      obtain ⟨h1, h2⟩ := wipeD_get h
      exact ⟨h1, by simp only [List.mem_cons, not_or]; exact ⟨fun e => hi e.symm, h2⟩⟩
theorem wipeD_out {ρ : Env} {i : Nat} : ∀ {vs : List Nat}, i ∉ vs → (wipeD ρ vs)[i]? = ρ[i]?
  | [], _ => rfl
  | v :: vs, h => by
    unfold wipeD
    rw [List.getElem?_set_ne (fun e => h (by rw [← e]; exact List.mem_cons_self)), wipeD_out fun z => h (List.mem_cons_of_mem _ z)]
section
variable {K : PySem.W.Frag} {G G' H H' : Hp} {o : Ow} {σ : St} {ρ : Env}
theorem SRep.lsts (R : SRep K G o H σ ρ) : Lsts (AD o) H := fun a ha => by
  obtain ⟨⟨i, b⟩, hp, rfl⟩ := List.mem_map.mp ha
  obtain ⟨d, _, _, h⟩ := R.own i b hp
  exact h.own1
theorem SRep.erase (R : SRep K G o H σ ρ) : DpS K (cut (AD o) H) σ (wipeD ρ (ID o)) := ⟨by rw [wipeD_length, R.len], fun i d e => by
  obtain ⟨h1, h2⟩ := wipeD_get e
  exact R.get i d h1 h2⟩
theorem SRep.full (R : SRep K G o H σ ρ) : DpS K H σ ρ := ⟨R.len, fun i d e => by
  by_cases h : i ∈ ID o
  · obtain ⟨⟨j, a⟩, hp, rfl⟩ := List.mem_map.mp h
    obtain ⟨d', h1, h2, h3⟩ := R.own j a hp
    rw [h1] at e
    cases e
    exact ⟨_, h2, h3.dp cutSame⟩
  · obtain ⟨v, h1, h2⟩ := R.get i d e h
    exact ⟨v, h1, dpMono cutSame h2⟩⟩
theorem SRep.mono (R : SRep K G o H σ ρ) (s : Same H H') : SRep K G o H' σ ρ := ⟨R.len, fun i d e h => by
  obtain ⟨v, h1, h2⟩ := R.get i d e h
  exact ⟨v, h1, dpMono (cutMono s) h2⟩, fun i a h => by
  obtain ⟨d, h1, h2, h3⟩ := R.own i a h
  obtain ⟨u, e, _⟩ := h3.own1
  exact ⟨d, h1, h2, h3.mono (Same.eq_of s e) (cutMono s)⟩, R.nda, R.ndi, R.base.trans (cutMono s)⟩
theorem SRep.glued (R : SRep K G o H σ ρ) (s : Same (cut (AD o) H) H') (n : ∀ a ∈ AD o, H' a = none) : SRep K G o (glue (AD o) H H') σ ρ ∧ cut (AD o) (glue (AD o) H H') = H' := ⟨R.mono (glueSame s), glueCut n⟩
theorem SRep.grow (R : SRep K G o H σ ρ) (s : Same G G') (h : Same G' (cut (AD o) H)) : SRep K G' o H σ ρ := ⟨R.len, R.get, R.own, R.nda, R.ndi, h⟩
theorem SRep.shrink (R : SRep K G o H σ ρ) (s : Same G' G) : SRep K G' o H σ ρ := ⟨R.len, R.get, R.own, R.nda, R.ndi, s.trans R.base⟩
theorem SRep.set {i : Nat} {v : V} {d : PyData} (R : SRep K G o H σ ρ) (hi : i ∉ ID o) (h : Dp K (cut (AD o) H) v d) : SRep K G o H (σ.set i (some v)) (ρ.set i (some d)) := by
  refine ⟨by rw [List.length_set, List.length_set, R.len], fun j e hj hn => ?_, fun j a hj => ?_, R.nda, R.ndi, R.base⟩
  · by_cases hij : i = j
    · subst hij
      by_cases hl : i < ρ.length
      · rw [List.getElem?_set_self hl] at hj
        cases hj
        exact ⟨v, List.getElem?_set_self (by rw [← R.len]; exact hl), h⟩
      · rw [List.getElem?_eq_none (by rw [List.length_set]; omega)] at hj
        cases hj
    · rw [List.getElem?_set_ne hij] at hj
      rw [List.getElem?_set_ne hij]
      exact R.get j e hj hn
  · have hij : i ≠ j := fun e => hi (by rw [e]; exact List.mem_map.mpr ⟨(j, a), hj, rfl⟩)
    rw [List.getElem?_set_ne hij, List.getElem?_set_ne hij]
    exact R.own j a hj
/-- a slot's list becomes data like any other -/
theorem cut_cons (a : Addr) (A : List Addr) (H : Hp) : cut (a :: A) H = cut A (cut [a] H) := by
  funext b
  unfold cut
  by_cases h1 : b = a <;> by_cases h2 : b ∈ A <;> simp [h1, h2]
theorem cut_cons_same (a : Addr) (A : List Addr) (H : Hp) : Same (cut (a :: A) H) (cut A H) := fun b u e => by
  obtain ⟨h1, h2⟩ := cut_some e
  rw [cut_out fun z => h1 (List.mem_cons_of_mem _ z)]
  exact h2
theorem cut_sub {A B : List Addr} (h : ∀ a ∈ B, a ∈ A) (H : Hp) : Same (cut A H) (cut B H) := fun b u e => by
  obtain ⟨h1, h2⟩ := cut_some e
  rw [cut_out fun z => h1 (h b z)]
  exact h2
def keepM (M : List Nat) (o : Ow) : Ow := o.filter fun p => decide (p.1 ∈ M)
theorem SRep.freeze (R : SRep K G o H σ ρ) (M : List Nat) : SRep K G (keepM M o) H σ ρ := by
  have sub : ∀ p ∈ keepM M o, p ∈ o := fun p hp => (List.mem_filter.mp hp).1
  have sA : ∀ a ∈ AD (keepM M o), a ∈ AD o := fun a ha => by
    obtain ⟨p, hp, rfl⟩ := List.mem_map.mp ha
    exact List.mem_map.mpr ⟨p, sub p hp, rfl⟩
  refine ⟨R.len, fun i d e h => ?_, fun i a h => ?_, ?_, ?_, R.base.trans (cut_sub sA H)⟩
  · by_cases hi : i ∈ ID o
    · obtain ⟨⟨j, a⟩, hp, rfl⟩ := List.mem_map.mp hi
      obtain ⟨d', h1, h2, h3⟩ := R.own j a hp
      rw [h1] at e
      cases e
      have na : a ∉ AD (keepM M o) := fun z => by
        obtain ⟨⟨k, b⟩, hq, e⟩ := List.mem_map.mp z
        have e : b = a := e
        subst e
        have hjk : (j, b) = (k, b) := by
          have nd := R.nda
          exact nodup_snd nd hp (sub _ hq) rfl
        cases hjk
        exact h (List.mem_map.mpr ⟨_, hq, rfl⟩)
      exact ⟨_, h2, (h3.mono (H' := cut (AD (keepM M o)) H) (cut_out na) (cut_sub sA H)).dp (Same.refl _)⟩
    · obtain ⟨v, h1, h2⟩ := R.get i d e hi
      exact ⟨v, h1, dpMono (cut_sub sA H) h2⟩
  · obtain ⟨d, h1, h2, h3⟩ := R.own i a (sub _ h)
    exact ⟨d, h1, h2, h3.mono rfl (cut_sub sA H)⟩
  · exact R.nda.sublist ((List.filter_sublist).map _)
  · exact R.ndi.sublist ((List.filter_sublist).map _)
where
  nodup_snd {l : Ow} {p q : Nat × Addr} (nd : (AD l).Nodup) (hp : p ∈ l) (hq : q ∈ l) : p.2 = q.2 → p = q := by
    induction l with
    | nil => cases hp
    | cons x r ih =>
      intro e
      have nd' := List.nodup_cons.mp (show (x.2 :: AD r).Nodup from nd)
      rcases List.mem_cons.mp hp with hp' | hp'
      · rcases List.mem_cons.mp hq with hq' | hq'
        · exact hp'.trans hq'.symm
        · exact absurd (show x.2 ∈ AD r from List.mem_map.mpr ⟨q, hq', by rw [← e, hp']⟩) nd'.1
      · rcases List.mem_cons.mp hq with hq' | hq'
        · exact absurd (show x.2 ∈ AD r from List.mem_map.mpr ⟨p, hp', by rw [e, hq']⟩) nd'.1
        · exact ih nd'.2 hp' hq' e
end
end L2.DL
set_option maxHeartbeats 2000000
namespace L2.DL
open PySem PySem.Spec PyProof.Rows

def SPost (K : PySem.W.Frag) (mg : Str → Option Value) (W : WX) (G : Hp) (M' Lb : List Nat) (D : Ends) : SRes → Prop
  | .nx ρ => ∀ σ' H' o, ID o = M' → SRep K G o H' σ' ρ → D.nx σ' H'
  | .brk ρ => ∀ σ' H' o, ID o = Lb → SRep K G o H' σ' ρ → D.bk σ' H'
  | .cnt ρ => ∀ σ' H' o, ID o = Lb → SRep K G o H' σ' ρ → D.ct σ' H'
  | .ret d => ∀ v H', Same G H' → Dp K H' v d → D.rt v H'
  | .err c ρ => ∃ C, mg c = some (.ref C) ∧ ∀ σ' H' (d : D0), Same G H' → DpS K H' σ' ρ → W (.ref C) d σ' H'
  | .bad => False
def tS (K : PySem.W.Frag) (mg : Str → Option Value) (W : WX) (M M' Lb : List Nat) (f : Sf) : TS := fun D σ H => ∃ G o ρ, ID o = M ∧ SRep K G o H σ ρ ∧ SPost K mg W G M' Lb D (f ρ)
abbrev DS (X : Cx) (W : WX) (M M' Lb : List Nat) (st : Stmt) (f : Sf) : Prop := PS X st (tS X.K X.mg W M M' Lb f)
abbrev DSs (X : Cx) (W : WX) (M M' Lb : List Nat) (st : List Stmt) (f : Sf) : Prop := PSs X st (tS X.K X.mg W M M' Lb f)
/-- an expression whose value shares nothing with the frame's own lists; these stay -/
def PostE (K : PySem.W.Frag) (mg : Str → Option Value) (W : WX) (G : Hp) (o : Ow) (σ : St) (ρ : Env) (Q : VK) : Res PyData → Prop
  | .ok d => ∀ v H', SRep K G o H' σ ρ → Dp K (cut (AD o) H') v d → Q v H'
  | .err c => ∃ C, mg c = some (.ref C) ∧ ∀ H' (d : D0), Same G H' → DpS K H' σ (wipeD ρ (ID o)) → W (.ref C) d σ H'
  | .bad => False
def tSE (K : PySem.W.Frag) (mg : Str → Option Value) (W : WX) (M : List Nat) (f : Ex) : TE := fun σ H Q => ∃ G o ρ, ID o = M ∧ SRep K G o H σ ρ ∧ PostE K mg W G o σ ρ Q (f ρ)
abbrev SE (X : Cx) (W : WX) (M : List Nat) (e : Expr) (f : Ex) : Prop := PE X e (tSE X.K X.mg W M f)
/-- an expression that lays a new list -/
def PostN (K : PySem.W.Frag) (mg : Str → Option Value) (W : WX) (σ : St) (H : Hp) (Q : VK) : Res (List PyData) → Prop
  | .ok ds => ∀ a vs H', Same H H' → H' a = none → DpAll K H' vs ds → Q (.ref a) (upd H' a (.lst vs))
  | .err c => ∃ C, mg c = some (.ref C) ∧ ∀ (d : D0) H', Same H H' → W (.ref C) d σ H'
  | .bad => False
def tDN (K : PySem.W.Frag) (mg : Str → Option Value) (W : WX) (f : Env → Res (List PyData)) : TE := fun σ H Q => ∃ ρ, DpS K H σ ρ ∧ PostN K mg W σ H Q (f ρ)
abbrev DN (X : Cx) (W : WX) (e : Expr) (f : Env → Res (List PyData)) : Prop := PE X e (tDN X.K X.mg W f)
section
variable {K : PySem.W.Frag} {mg : Str → Option Value} {W : WX} {G G' H H' : Hp} {o : Ow} {σ : St} {ρ : Env} {M M' Lb : List Nat} {D : Ends}
theorem Same.upd_of {a : Addr} {u : HO} (s : Same H H') (h : H a = none) (n : H' a = none) : Same H (upd H' a u) := s.trans (sameUpd n)
theorem SRep.same (R : SRep K G o H σ ρ) : Same G H := R.base.trans cutSame
end

/-! ### blocks -/
def nxS : Sf := fun ρ => .nx ρ
def seqS (f g : Sf) : Sf := fun ρ => match f ρ with
  | .nx ρ' => g ρ'
  | r => r
def ifS (c : Te) (a b : Sf) : Sf := fun ρ => match c ρ with
  | .ok k => if k = true then a ρ else b ρ
  | .err c => .err c ρ
  | .bad => .bad
def retS (e : Ex) : Sf := fun ρ => match e ρ with
  | .ok d => .ret d
  | .err c => .err c ρ
  | .bad => .bad
def exprS (e : Ex) : Sf := fun ρ => match e ρ with
  | .ok _ => .nx ρ
  | .err c => .err c ρ
  | .bad => .bad
def raiseS (c : Str) : Sf := fun ρ => .err c ρ
def setS (M : List Nat) (i : Nat) (e : Ex) : Sf := fun ρ => match e ρ with
  | .ok d => .nx (ρ.set i (some d))
  | .err c => .err c (wipeD ρ M)
  | .bad => .bad
def newS (M : List Nat) (i : Nat) (e : Env → Res (List PyData)) : Sf := fun ρ => match e (wipeD ρ M) with
  | .ok ds => if i < ρ.length then .nx (ρ.set i (some (.list ds))) else .bad
  | .err c => .err c (wipeD ρ M)
  | .bad => .bad
def asgS (M : List Nat) (t : Tgt) (e : Ex) : Sf := fun ρ => match e ρ with
  | .ok d => (match bindT t d ρ with
    | .ok ρ' => .nx ρ'
    | _ => .bad)
  | .err c => .err c (wipeD ρ M)
  | .bad => .bad
section
variable {X : Cx} {W : WX} {M M' M1 M2 Lb : List Nat} {st : Stmt} {rest a b : List Stmt} {f g : Sf} {e : Expr} {fe : Ex} {c : Expr} {fc : Te} {pos : Pos}
theorem s_nil : DSs X W M M Lb [] nxS := pssImp pss_nil fun D σ H ⟨G, o, ρ, hm, R, q⟩ => q σ H o hm R
theorem s_one (h : DS X W M M' Lb st f) : DSs X W M M' Lb [st] f := pss_one h
theorem s_cons (h1 : DS X W M M1 Lb st f) (h2 : DSs X W M1 M2 Lb rest g) : DSs X W M M2 Lb (st :: rest) (seqS f g) := by
  refine pssImp (pss_cons h1 h2) fun D σ H ⟨G, o, ρ, hm, R, q⟩ => ⟨G, o, ρ, hm, R, ?_⟩
  unfold seqS at q
  cases e : f ρ with
  | nx ρ' => rw [e] at q; exact fun σ' H' o' hm' R' => ⟨G, o', ρ', hm', R', q⟩
  | ret d => rw [e] at q; exact q
  | brk ρ' => rw [e] at q; exact q
  | cnt ρ' => rw [e] at q; exact q
  | err c ρ' => rw [e] at q; exact q
  | bad => rw [e] at q; exact q
/-- some slots' own lists become plain data ahead of a block -/
theorem s_frz (M1 : List Nat) (hM : M.filter (fun i => decide (i ∈ M1)) = M1) (h : DSs X W M1 M2 Lb rest g) : DSs X W M M2 Lb rest g := by
  refine pssImp h fun D σ H ⟨G, o, ρ, hm, R, q⟩ => ⟨G, keepM M1 o, ρ, ?_, R.freeze M1, q⟩
  have z : ID (keepM M1 o) = (ID o).filter fun i => decide (i ∈ M1) := by
    show ((o.filter fun p => decide (p.1 ∈ M1)).map (·.1)) = _
    rw [List.filter_map]
    rfl
  rw [z, hm, hM]
theorem s_pass : DS X W M M Lb (.Pass pos) nxS := psImp ps_pass fun D σ H ⟨G, o, ρ, hm, R, q⟩ => q σ H o hm R
theorem s_doc {x j pos'} : DS X W M M Lb (.Expr (.Constant (.str x) j pos') pos) nxS := psImp ps_doc fun D σ H ⟨G, o, ρ, hm, R, q⟩ => q σ H o hm R
theorem s_break : DS X W M M' M (.Break pos) (fun ρ => .brk ρ) := psImp ps_break fun D σ H ⟨G, o, ρ, hm, R, q⟩ => q σ H o hm R
theorem s_cont : DS X W M M' M (.Continue pos) (fun ρ => .cnt ρ) := psImp ps_continue fun D σ H ⟨G, o, ρ, hm, R, q⟩ => q σ H o hm R
theorem s_if (hc : DT X W c fc) (ha : DSs X W M M' Lb a f) (hb : DSs X W M M' Lb b g) : DS X W M M' Lb (.If c a b pos) (ifS fc f g) := by
  refine psImp (ps_if hc ha hb) fun D σ H ⟨G, o, ρ, hm, R, q⟩ => ⟨ρ, R.full, ?_⟩
  unfold ifS at q
  cases e : fc ρ with
  | ok k =>
    rw [e] at q
    intro H1 s1
    cases k with
    | true => exact iteT ⟨G, o, ρ, hm, R.mono s1, q⟩
    | false => exact iteF ⟨G, o, ρ, hm, R.mono s1, q⟩
  | err c =>
    rw [e] at q
    obtain ⟨C, h1, h2⟩ := q
    exact ⟨C, h1, fun d H' s => h2 σ H' d (R.same.trans s) (R.full.mono s)⟩
  | bad => rw [e] at q; exact q.elim
theorem s_ret (h : DE X W e fe) : DS X W M M' Lb (.Return (some e) pos) (retS fe) := by
  refine psImp (ps_ret h) fun D σ H ⟨G, o, ρ, hm, R, q⟩ => ⟨ρ, R.full, ?_⟩
  unfold retS at q
  cases e : fe ρ with
  | ok k => rw [e] at q; exact fun v H' s r => q v H' (R.same.trans s) r
  | err c =>
    rw [e] at q
    obtain ⟨C, h1, h2⟩ := q
    exact ⟨C, h1, fun d H' s => h2 σ H' d (R.same.trans s) (R.full.mono s)⟩
  | bad => rw [e] at q; exact q.elim
theorem s_retN : DS X W M M' Lb (.Return none pos) (fun _ => .ret .none) := psImp ps_retN fun D σ H ⟨G, o, ρ, hm, R, q⟩ => q .non H R.same .non
theorem s_expr (h : DE X W e fe) (hs : swapsWith e none pos.line X.env = pure false := by rfl) : DS X W M M Lb (.Expr e pos) (exprS fe) := by
  refine psImp (ps_expr h hs) fun D σ H ⟨G, o, ρ, hm, R, q⟩ => ⟨ρ, R.full, ?_⟩
  unfold exprS at q
  cases e : fe ρ with
  | ok k => rw [e] at q; exact fun v H' s r => q σ H' o hm (R.mono s)
  | err c =>
    rw [e] at q
    obtain ⟨C, h1, h2⟩ := q
    exact ⟨C, h1, fun d H' s => h2 σ H' d (R.same.trans s) (R.full.mono s)⟩
  | bad => rw [e] at q; exact q.elim
end

/-! ### values for slots -/
mutual
/-- no list lies in it: it shares nothing with a list -/
def noList : PyData → Bool
  | .list _ => false
  | .dict _ => false
  | .tuple xs => noLists xs
  | .none => true
  | .bool _ => true
  | .int _ => true
  | .str _ => true
def noLists : List PyData → Bool
  | [] => true
  | x :: xs => noList x && noLists xs
end
def scal (d : PyData) : Res PyData := if noList d = true then .ok d else .bad
@[simp] theorem noList_none : noList .none = true := rfl
@[simp] theorem noList_bool (b : Bool) : noList (.bool b) = true := rfl
@[simp] theorem noList_int (i : Int) : noList (.int i) = true := rfl
@[simp] theorem noList_str (x : Str) : noList (.str x) = true := rfl
@[simp] theorem noList_tuple (xs : List PyData) : noList (.tuple xs) = noLists xs := rfl
@[simp] theorem noLists_nil : noLists [] = true := rfl
@[simp] theorem noLists_cons (x : PyData) (xs : List PyData) : noLists (x :: xs) = (noList x && noLists xs) := rfl
@[simp] theorem scal_none : scal .none = .ok .none := rfl
@[simp] theorem scal_bool (b : Bool) : scal (.bool b) = .ok (.bool b) := rfl
@[simp] theorem scal_int (i : Int) : scal (.int i) = .ok (.int i) := rfl
@[simp] theorem scal_str (x : Str) : scal (.str x) = .ok (.str x) := rfl
theorem scal_ok {d : PyData} (h : noList d = true) : scal d = .ok d := if_pos h
mutual
theorem dp_noList {K : PySem.W.Frag} {A : List Addr} {H : Hp} (hA : Lsts A H) : ∀ {v : V} {d : PyData}, Dp K H v d → noList d = true → Dp K (cut A H) v d
  | _, _, .non, _ => .non
  | _, _, .bl b, _ => .bl b
  | _, _, .int i, _ => .int i
  | _, _, .str x, _ => .str x
  | _, _, .lst _ _, n => by cases n
  | _, _, .dic _ _, n => by cases n
  | _, _, .ins _ _ _, n => by cases n
  | _, _, .tup h a, n => .tup (by
      have out : ∀ {p o}, H p = some o → ¬ Own1 o → cut A H p = some o := fun {p o} e z => by
        rw [cut_out]
        · exact e
        · intro q
          obtain ⟨o1, e', k⟩ := hA p q
          rw [e] at e'; cases e'
          exact z k
      rcases h with ⟨o, h, d⟩ | h
      · exact .inl ⟨o, out h (fun z => nomatch z), d⟩
      · exact .inr h) (dp_noLists hA a n)
theorem dp_noLists {K : PySem.W.Frag} {A : List Addr} {H : Hp} (hA : Lsts A H) : ∀ {vs : List V} {ds : List PyData}, DpAll K H vs ds → noLists ds = true → DpAll K (cut A H) vs ds
  | _, _, .nil, _ => .nil
  | _, _, .cons h t, n => by
    rw [noLists_cons, Bool.and_eq_true] at n
    exact .cons (dp_noList hA h n.1) (dp_noLists hA t n.2)
end
section
variable {X : Cx} {W : WX} {M M' M1 M2 Lb : List Nat} {e : Expr} {fe : Ex} {pos : Pos}
/-- run without the own lists -/
theorem se_fr (h : DE X W e fe) : SE X W M e (fun ρ => fe (wipeD ρ M)) := by
  refine peImp (pe_frame h) fun σ H Q ⟨G, o, ρ, hm, R, q⟩ => ⟨AD o, R.lsts, wipeD ρ M, by rw [← hm]; exact R.erase, ?_⟩
  dsimp only at q
  cases e : fe (wipeD ρ M) with
  | ok d =>
    rw [e] at q
    intro v H' s r n
    obtain ⟨R', ec⟩ := R.glued s n
    exact q v _ R' (by rw [ec]; exact r)
  | err c =>
    rw [e] at q
    obtain ⟨C, h1, h2⟩ := q
    refine ⟨C, h1, fun d H' s => h2 H' d (R.base.trans s) ((R.erase).mono s)⟩
  | bad => rw [e] at q; exact q.elim
/-- where there are no own lists -/
theorem se_no (h : DE X W e fe) : SE X W [] e fe := se_fr (M := []) h
/-- with the own lists in sight: a plain scalar comes of it -/
theorem se_sc (h : DE X W e fe) : SE X W M e (fun ρ => (fe ρ).bind scal) := by
  refine peImp h fun σ H Q ⟨G, o, ρ, hm, R, q⟩ => ⟨ρ, R.full, ?_⟩
  dsimp only at q
  cases e : fe ρ with
  | ok d =>
    rw [e] at q
    simp only [Res.bind_ok] at q
    intro v H' s r
    unfold scal at q
    by_cases hd : noList d = true
    · rw [if_pos hd] at q
      have R' := R.mono s
      exact q v H' R' (dp_noList R'.lsts r hd)
    · rw [if_neg hd] at q
      exact q.elim
  | err c =>
    rw [e] at q
    obtain ⟨C, h1, h2⟩ := q
    refine ⟨C, h1, fun d H' s => h2 H' d (R.same.trans s) ⟨by rw [wipeD_length, R.len], fun i d' hi => ?_⟩⟩
    exact (R.full.mono s).get i d' (wipeD_get hi).1
  | bad => rw [e] at q; exact q.elim
theorem s_set (i : Nat) {x : Str} {px : Pos} (hN : X.N.Nodup) (h : SE X W M e fe) (hi : X.N[i]? = some x := by rfl) (hx : Loc X.env.scope x := by first | exact Or.inl rfl | exact Or.inr rfl) (hiM : i ∉ M := by decide)
    (hs : swapsWith e (some (.Name x px)) pos.line X.env = pure false := by rfl) (hf : X.fn x = true ∨ X.env.scope.names.lookup x = some .local := by first | exact .inl rfl | exact .inr rfl | assumption) : DS X W M M Lb (.Assign [.Name x px] e pos) (setS M i fe) := by
  refine psImp (ps_set hN hi hx h hs hf) fun D σ H ⟨G, o, ρ, hm, R, q⟩ => ⟨G, o, ρ, hm, R, ?_⟩
  unfold setS at q
  cases e : fe ρ with
  | ok d =>
    rw [e] at q
    exact fun v H' R' r => q _ H' o hm (R'.set (by rw [hm]; exact hiM) r)
  | err c =>
    rw [e] at q
    obtain ⟨C, h1, h2⟩ := q
    exact ⟨C, h1, fun H' d s r => h2 σ H' d s (by rw [← hm]; exact r)⟩
  | bad => rw [e] at q; exact q.elim
/-- a target that may be several names -/
theorem s_asg {tg : Expr} {t : Tgt} (hg : DG X tg t) (h : SE X W M e fe) (hd : ∀ i ∈ t.slots, i ∉ M := by decide) (hs : swapsWithSole [tg] e pos.line X.env = pure false := by rfl) (hw : swappedStores [tg] e X.env = pure none := by rfl)
    (h1 : (assignEach [tg] X.env).map (·.2) = [assign tg X.env] := by rfl) : DS X W M M Lb (.Assign [tg] e pos) (asgS M t fe) := by
  refine psImp (ps_asg h hg hs hw h1) fun D σ H ⟨G, o, ρ, hm, R, q⟩ => ⟨G, o, ρ, hm, R, ?_⟩
  unfold asgS at q
  cases e : fe ρ with
  | ok d =>
    rw [e] at q
    intro v H' R' r
    dsimp only at q
    cases eb : bindT t d ρ with
    | ok ρ' =>
      rw [eb] at q
      exact bind_own R' r (by rw [hm]; exact hd) eb fun σ' R2 => q σ' H' o hm R2
    | err c => rw [eb] at q; exact q.elim
    | bad => rw [eb] at q; exact q.elim
  | err c =>
    rw [e] at q
    obtain ⟨C, h1, h2⟩ := q
    exact ⟨C, h1, fun H' d s r => h2 σ H' d s (by rw [← hm]; exact r)⟩
  | bad => rw [e] at q; exact q.elim
where
  setAll_own {K : PySem.W.Frag} {G H : Hp} {o : Ow} {Q : St → Hp → Prop} : ∀ (is : List Nat) {vs : List V} {ds : List PyData} {σ : St} {ρ : Env}, (∀ i ∈ is, i ∉ ID o) → ds.length = is.length → DpAll K (cut (AD o) H) vs ds → SRep K G o H σ ρ →
      (∀ σ', SRep K G o H σ' (setAll is ds ρ) → Q σ' H) → gNames is vs σ H Q
    | [], vs, ds, σ, ρ, _, hl, hv, R, q => by
      cases hv with
      | nil => exact ⟨rfl, q σ R⟩
      | cons _ _ => simp at hl
    | i :: is, vs, ds, σ, ρ, hn, hl, hv, R, q => by
      cases hv with
      | nil => simp at hl
      | cons h1 h2 => exact ⟨_, _, rfl, setAll_own is (fun j hj => hn j (List.mem_cons_of_mem _ hj)) (by simpa using hl) h2 (R.set (hn i List.mem_cons_self) h1) q⟩
  bind_own {K : PySem.W.Frag} {G H : Hp} {o : Ow} {σ : St} {ρ ρ' : Env} {t : Tgt} {v : V} {d : PyData} {Q : St → Hp → Prop} (R : SRep K G o H σ ρ) (hd : Dp K (cut (AD o) H) v d) (hn : ∀ i ∈ t.slots, i ∉ ID o) (e : bindT t d ρ = .ok ρ')
      (q : ∀ σ', SRep K G o H σ' ρ' → Q σ' H) : tgG K t v σ H Q := by
    cases t with
    | one i =>
      cases e
      exact q _ (R.set (hn i (by simp [Tgt.slots])) hd)
    | tup is =>
      cases d with
      | tuple ds =>
        unfold bindT at e
        dsimp only at e
        split at e
        · rename_i hl
          cases e
          obtain ⟨a, xs, rfl, hs, hv⟩ := dp_tup hd
          exact ⟨a, xs, rfl, Same.sqt cutSame hs, by rw [hv.len]; exact hl, setAll_own is hn hl hv R q⟩
        · cases e
      | _ => cases e
/-- a name's own list is not used as such any more: the name is given something else -/
theorem s_new (i : Nat) {x : Str} {px : Pos} {fl : Env → Res (List PyData)} (hN : X.N.Nodup) (h : DN X W e fl) (hi : X.N[i]? = some x := by rfl) (hx : Loc X.env.scope x := by first | exact Or.inl rfl | exact Or.inr rfl) (hiM : i ∉ M := by decide)
    (hs : swapsWith e (some (.Name x px)) pos.line X.env = pure false := by rfl) (hf : X.fn x = true ∨ X.env.scope.names.lookup x = some .local := by first | exact .inl rfl | exact .inr rfl | assumption) : DS X W M (i :: M) Lb (.Assign [.Name x px] e pos) (newS M i fl) := by
  refine psImp (ps_set hN hi hx (pe_frame h) hs hf) fun D σ H hh => new_of hi hiM hh
where
  new_of {X : Cx} {W : WX} {M Lb : List Nat} {i : Nat} {x : Str} {fl : Env → Res (List PyData)} {D : Ends} {σ : St} {H : Hp} (hi : X.N[i]? = some x) (hiM : i ∉ M) (h : tS X.K X.mg W M (i :: M) Lb (newS M i fl) D σ H) : tAsg (tFr (tDN X.K X.mg W fl)) (gName i) D σ H := by
    obtain ⟨G, o, ρ, hm, R, q⟩ := h
    refine ⟨AD o, R.lsts, wipeD ρ M, by rw [← hm]; exact R.erase, ?_⟩
    unfold newS at q
    cases e : fl (wipeD ρ M) with
    | ok ds =>
      rw [e] at q
      intro a vs H' s na hv n
      dsimp only at q
      by_cases hl : i < ρ.length
      rotate_left
      · rw [if_neg hl] at q; exact q.elim
      rw [if_pos hl] at q
      -- the heap behind: the own lists as they were, the new list at a
      have naA : a ∉ AD o := fun z => by
        have := n a z
        rw [upd_same] at this
        cases this
      have n' : ∀ b ∈ AD o, H' b = none := fun b hb => by
        have := n b hb
        rw [upd_ne (fun z => naA (by rw [← z]; exact hb))] at this
        exact this
      obtain ⟨R', ec⟩ := R.glued s n'
      have eg : glue (AD o) H (upd H' a (.lst vs)) = upd (glue (AD o) H H') a (.lst vs) := by
        funext b
        unfold glue upd
        by_cases h1 : b ∈ AD o
        · have : b ≠ a := fun z => naA (by rw [← z]; exact h1)
          simp [h1, this]
        · simp [h1]
      have hga : glue (AD o) H H' a = none := by rw [glue_out naA]; exact na
      rw [eg]
      refine q _ _ ((i, a) :: o) (by show i :: ID o = _; rw [hm]) (own_new R' (by rw [hm]; exact hiM) hl hga naA (by rw [ec]; exact hv))
    | err c =>
      rw [e] at q
      obtain ⟨C, h1, h2⟩ := q
      refine ⟨C, h1, fun d H' s => h2 σ H' d (R.base.trans s) (by rw [← hm]; exact (R.erase).mono s)⟩
    | bad => rw [e] at q; exact q.elim
  own_new {K : PySem.W.Frag} {G H : Hp} {o : Ow} {σ : St} {ρ : Env} {i : Nat} {a : Addr} {vs : List V} {ds : List PyData} (R : SRep K G o H σ ρ) (hi : i ∉ ID o) (hl : i < ρ.length) (ha : H a = none) (naA : a ∉ AD o) (hv : DpAll K (cut (AD o) H) vs ds) :
      SRep K G ((i, a) :: o) (upd H a (.lst vs)) (σ.set i (some (.ref a))) (ρ.set i (some (.list ds))) := by
    have ec : cut (AD ((i, a) :: o)) (upd H a (.lst vs)) = cut (AD o) H := by
      funext b
      unfold cut
      by_cases h1 : b = a
      · subst h1
        have z : b ∈ AD ((i, b) :: o) := List.mem_cons_self
        rw [if_pos z]
        by_cases h2 : b ∈ AD o
        · exact absurd h2 naA
        · rw [if_neg h2]; exact ha.symm
      · by_cases h2 : b ∈ AD o
        · rw [if_pos h2, if_pos (show b ∈ AD ((i, a) :: o) from List.mem_cons_of_mem _ h2)]
        · rw [if_neg h2, if_neg (show b ∉ AD ((i, a) :: o) from fun z => (List.mem_cons.mp z).elim h1 h2), upd_ne h1]
    refine ⟨by rw [List.length_set, List.length_set, R.len], fun j d hj hn => ?_, fun j b hj => ?_, List.nodup_cons.mpr ⟨naA, R.nda⟩, List.nodup_cons.mpr ⟨hi, R.ndi⟩, by rw [ec]; exact R.base⟩
    · have hij : i ≠ j := fun z => hn (by rw [← z]; exact List.mem_cons_self)
      rw [List.getElem?_set_ne hij] at hj
      rw [List.getElem?_set_ne hij, ec]
      exact R.get j d hj fun z => hn (List.mem_cons_of_mem _ z)
    · rw [ec]
      rcases List.mem_cons.mp hj with z | z
      · cases z
        exact ⟨_, List.getElem?_set_self hl, List.getElem?_set_self (by rw [← R.len]; exact hl), .lst upd_same hv⟩
      · obtain ⟨e, h1, h2, h3⟩ := R.own j b z
        have hij : i ≠ j := fun q => hi (by rw [q]; exact List.mem_map.mpr ⟨(j, b), z, rfl⟩)
        have hba : b ≠ a := fun q => naA (by rw [← q]; exact List.mem_map.mpr ⟨(j, b), z, rfl⟩)
        exact ⟨e, by rw [List.getElem?_set_ne hij]; exact h1, by rw [List.getElem?_set_ne hij]; exact h2, h3.mono (upd_ne hba) (Same.refl _)⟩
end
end L2.DL
set_option maxHeartbeats 2000000
namespace L2.DL
open PySem PySem.Spec PyProof.Rows

/-! ### new lists -/
section
variable {K : PySem.W.Frag} {mg : Str → Option Value} {W : WX} {σ : St} {H H' : Hp}
theorem PostN.of {Q : VK} {r : Res (List PyData)} (h : PostN K mg W σ H Q r) (s : Same H H') : PostN K mg W σ H' Q r := by
  cases r with
  | ok d => exact fun a vs H2 s2 n q => h a vs H2 (s.trans s2) n q
  | err c =>
    obtain ⟨C, h1, h2⟩ := h
    exact ⟨C, h1, fun d H2 s2 => h2 d H2 (s.trans s2)⟩
  | bad => exact h
theorem Post.bindN {Q : VK} {r : Res PyData} {k : PyData → Res (List PyData)} (h : PostN K mg W σ H Q (r.bind k)) :
    Post K mg W σ H (fun v H' => ∃ d, r = .ok d ∧ Same H H' ∧ Dp K H' v d ∧ PostN K mg W σ H' Q (k d)) r := by
  cases r with
  | ok d => exact fun v H2 s2 q => ⟨d, rfl, s2, q, PostN.of (r := k d) h s2⟩
  | err c => exact h
  | bad => exact h
theorem PostA.bindN {n : Nat} {Q : VK} {r : Res (List PyData)} {k : List PyData → Res (List PyData)} (h : PostN K mg W σ H Q (r.bind k)) :
    PostA K mg W σ n H (fun vs H' => ∃ ds, r = .ok ds ∧ vs.length = n ∧ Same H H' ∧ DpAll K H' vs ds ∧ PostN K mg W σ H' Q (k ds)) r := by
  cases r with
  | ok d => exact fun v H2 hl s2 q => ⟨d, rfl, hl, s2, q, PostN.of (r := k d) h s2⟩
  | err c => exact h
  | bad => exact h
theorem postC_ofN {it : Itr'} {t : Tgt} {c : Te} {e : Ex} {Q : VK} {ρ : Env} (h : PostN K mg W σ H Q (eCompL it t c e ρ)) : PostC K mg W σ H Q it t c e ρ := by
  unfold PostC
  unfold eCompL at h
  cases ei : it ρ with
  | err q => rw [ei] at h; exact h
  | bad => rw [ei] at h; exact h
  | ok ds =>
    rw [ei] at h
    simp only [Res.bind_ok] at h
    by_cases hlen : ds.length < 16777216
    · rw [if_pos hlen] at h
      cases ec : compD t c e (wipeD ρ t.slots) ds with
      | err q => exact absurd ec compD_noerr
      | bad => rw [ec] at h; exact h.elim
      | ok xs =>
        rw [ec] at h
        refine ⟨hlen, xs, ec, fun D vs H' hD s eD hvs => ?_⟩
        have q := h D vs (cut [D] H') s (cut_in (by simp)) hvs
        have e1 : upd (cut [D] H') D (.lst vs) = H' := by
          funext b
          unfold upd cut
          by_cases hb : b = D
          · subst hb; rw [if_pos rfl]; exact eD.symm
          · rw [if_neg hb, if_neg (by simpa using hb)]
        rw [e1] at q
        exact q
    · rw [if_neg hlen] at h
      exact h.elim
end
def nLst (f : Ar) : Env → Res (List PyData) := fun ρ => (f ρ).bind fun xs => if xs.length ≤ 16777216 then .ok xs else .bad
def nR1 (f : Ex) : Env → Res (List PyData) := fun ρ => (f ρ).bind fun x => (asI x).bind fun n => if inB n then .ok (rangeD 0 n) else .bad
def nList (f : Ex) : Env → Res (List PyData) := fun ρ => (f ρ).bind items
def nCat (f g : Ex) : Env → Res (List PyData) := fun ρ => (f ρ).bind fun x => (g ρ).bind fun y => (asL x).bind fun xs => (asL y).bind fun ys => if xs.length + ys.length ≤ 16777216 then .ok (xs ++ ys) else .bad
section
variable {X : Cx} {W : WX} {a b : Expr} {fa fb : Ex} {es : List Expr} {g : Ar} {p p2 pos pos2 : Pos}
theorem n_lst (h : DA X W es g) : DN X W (.List es pos) (nLst g) := by
  refine peImp (pe_lst h) fun σ H Q ⟨ρ, hρ, h⟩ => ⟨ρ, hρ, (PostA.bindN h).imp fun vs H2 _ ⟨ds, _, hl, s2, r2, h3⟩ => ?_⟩
  by_cases hl : ds.length ≤ 16777216
  · rw [if_pos hl] at h3
    exact ⟨by rw [r2.len, sizeLine_eq]; exact hl, fun p hp => h3 p vs _ (Same.refl _) hp r2⟩
  · rw [if_neg hl] at h3
    exact h3.elim
theorem n_R1 (hc : X.calm = true) (hm : X.mg "list" = none) (hm2 : X.mg "range" = none) (h : DE X W a fa) (hg : Gl X "list" := by rfl) (hg2 : Gl X "range" := by rfl) (na : starEach [a] X.env = (false, eval a X.env) :: starEach [] X.env := by rfl)
    (nb : starEach [.Call (.Name "range" p2) [a] [] pos2] X.env = (false, eval (.Call (.Name "range" p2) [a] [] pos2) X.env) :: starEach [] X.env := by rfl) : DN X W (.Call (.Name "list" p) [.Call (.Name "range" p2) [a] [] pos2] [] pos) (nR1 fa) := by
  refine peImp (pe_listRg hc hg hm (prg_1 hg2 hm2 h na) nb) fun σ H Q ⟨ρ, hρ, h⟩ => ⟨ρ, hρ, (Post.bindN h).imp fun v H1 _ ⟨d, _, s1, rx, h1⟩ => ?_⟩
  cases d with
  | int n =>
    have h1 : PostN X.K X.mg W σ H1 Q (if inB n then .ok (rangeD 0 n) else .bad) := h1
    by_cases hb : inB n
    · rw [if_pos hb] at h1
      unfold inB at hb
      exact ⟨n, dp_int rx, ⟨by omega, by omega, by omega, by omega, by omega⟩, fun q hq => h1 q _ _ (Same.refl _) hq (dp_rg 0 n)⟩
    · rw [if_neg hb] at h1
      exact h1.elim
  | _ => exact h1.elim
theorem n_list (hm : X.mg "list" = none) (ha : DE X W a fa) (hg : Gl X "list" := by rfl) (hs : starEach [a] X.env = (false, eval a X.env) :: starEach [] X.env := by rfl) (hpl : (backTo pos (starEach [] X.env)).any (·.1) = false := by rfl) : DN X W (.Call (.Name "list" p) [a] [] pos) (nList fa) := by
  refine peImp (pe_callTy call_list_of hg hm (by decide +kernel) (pa_cons ha pa_nil hs) (he := hs) (hpl := hpl)) fun σ H Q ⟨ρ, hρ, h⟩ => ⟨ρ, hρ, (Post.bindN h).imp fun v H1 _ ⟨d, _, s1, rx, h1⟩ => ?_⟩
  cases d with
  | list ds =>
    obtain ⟨q, vs, rfl, hs, hv⟩ := dp_lst rx
    exact ⟨q, vs, rfl, .inl hs, fun l hl => h1 l vs _ (Same.refl _) hl hv⟩
  | tuple ds =>
    obtain ⟨q, vs, rfl, hs, hv⟩ := dp_tup rx
    exact ⟨q, vs, rfl, .inr hs, fun l hl => h1 l vs _ (Same.refl _) hl hv⟩
  | _ => exact h1.elim
theorem n_cat (ha : DE X W a fa) (hb : DE X W b fb) : DN X W (.BinOp a .Add b pos) (nCat fa fb) := by
  refine peImp (pe_op op_catQ ha hb) fun σ H Q ⟨ρ, hρ, h⟩ => ⟨ρ, hρ, (Post.bindN h).imp fun v H1 _ ⟨d, _, s1, rx, h1⟩ => ⟨ρ, hρ.mono s1, (Post.bindN h1).imp fun u H2 _ ⟨e, _, s2, ry, h2⟩ => ?_⟩⟩
  cases d with
  | list ds =>
    cases e with
    | list es =>
      obtain ⟨q, vs, rfl, hs, hv⟩ := dp_lst (dpMono s2 rx)
      obtain ⟨q', us, rfl, hs', hv'⟩ := dp_lst ry
      have h2 : PostN X.K X.mg W σ H2 Q (if ds.length + es.length ≤ 16777216 then .ok (ds ++ es) else .bad) := h2
      by_cases hl : ds.length + es.length ≤ 16777216
      · rw [if_pos hl] at h2
        exact ⟨q, q', vs, us, rfl, rfl, hs, hs', by rw [hv.len, hv'.len, sizeLine_eq]; exact hl, fun p hp => h2 p _ _ (Same.refl _) hp (hv.app hv')⟩
      · rw [if_neg hl] at h2
        exact h2.elim
    | _ => exact h2.elim
  | _ => exact h2.elim
end

/-! ### y = [.. for ..] -/
section
variable {X : Cx} {W : WX} {M M' M1 M2 Lb : List Nat} {elt tg iter : Expr} {ifs : List Expr} {scope : Scope} {own : List (Str × Nat)} {pos spos py : Pos} {it : Itr'} {t : Tgt} {c : Te} {e : Ex} {y : Str}
theorem s_setLc (i : Nat) (hc : X.calm = true) (hN : X.N.Nodup) (hi : DI X W tg iter it) (ok : BlkOk X.N X.env.scope scope own) (hsl : own.map (·.2) = t.slots)
    (hg : ∀ (s : Shared) (H : Hp) (C : Addr) (cl : List (Str × Addr)) (fp : List Addr), DG (X.blk s H scope (compEnvC scope cl C X.env) fp) tg t) (ht : ∀ (s : Shared) (H : Hp) (C : Addr) (cl : List (Str × Addr)) (fp : List Addr), DTs (X.blk s H scope (compEnvC scope cl C X.env) fp) W0 ifs c)
    (he : ∀ (s : Shared) (H : Hp) (C : Addr) (cl : List (Str × Addr)) (fp : List Addr), DE (X.blk s H scope (compEnvC scope cl C X.env) fp) W0 elt e)
    (hy : X.N[i]? = some y := by rfl) (hyl : X.env.scope.names.lookup y = some .local := by rfl) (hsw : swapsWith (.ListComp elt [⟨tg, iter, ifs, 0⟩] scope pos) (some (.Name y py)) spos.line X.env = pure true := by exact sw_true rfl rfl rfl (by decide +kernel))
    (hiM : i ∉ M := by decide) (hs : ∀ x, foldedSetIterable iter X.env x = pure x := by intro _; rfl) :
    DS X W M M Lb (.Assign [.Name y py] (.ListComp elt [⟨tg, iter, ifs, 0⟩] scope pos) spos) (setS M i (fun ρ => eComp it t c e (wipeD ρ M))) := by
  refine psImp (ps_frame (ps_setLc (te := tFr (tD X.K X.mg W0 e)) (tt := tDT X.K X.mg W0 c) (g := tgG X.K t) hc hN hy hyl hsw hi ok hg ht (fun s H C cl fp => pe_frame (he s H C cl fp)) hs)) fun D σ H ⟨G, o, ρ, hm, R, q⟩ => ⟨AD o, R.lsts, ?_⟩
  show tLc _ _ _ _ _ σ _ _
  rw [hsl]
  refine tLc_of ⟨wipeD ρ M, by rw [← hm]; exact R.erase, postC_of ?_⟩
  unfold setS at q
  dsimp only at q
  cases e1 : eComp it t c e (wipeD ρ M) with
  | ok d =>
    rw [e1] at q
    intro v H' s r
    show (∀ a ∈ AD o, H' a = none) → D.nx (σ.set i (some v)) (glue (AD o) H H')
    intro n
    obtain ⟨R', ec⟩ := R.glued s n
    exact q _ _ o hm (R'.set (by rw [hm]; exact hiM) (by rw [ec]; exact r))
  | err c =>
    rw [e1] at q
    obtain ⟨C, h1, h2⟩ := q
    exact ⟨C, h1, fun d H' s => h2 σ H' d (R.base.trans s) (by rw [← hm]; exact (R.erase).mono s)⟩
  | bad => rw [e1] at q; exact q.elim
theorem s_newLc (i : Nat) (hc : X.calm = true) (hN : X.N.Nodup) (hi : DI X W tg iter it) (ok : BlkOk X.N X.env.scope scope own) (hsl : own.map (·.2) = t.slots)
    (hg : ∀ (s : Shared) (H : Hp) (C : Addr) (cl : List (Str × Addr)) (fp : List Addr), DG (X.blk s H scope (compEnvC scope cl C X.env) fp) tg t) (ht : ∀ (s : Shared) (H : Hp) (C : Addr) (cl : List (Str × Addr)) (fp : List Addr), DTs (X.blk s H scope (compEnvC scope cl C X.env) fp) W0 ifs c)
    (he : ∀ (s : Shared) (H : Hp) (C : Addr) (cl : List (Str × Addr)) (fp : List Addr), DE (X.blk s H scope (compEnvC scope cl C X.env) fp) W0 elt e)
    (hy : X.N[i]? = some y := by rfl) (hyl : X.env.scope.names.lookup y = some .local := by rfl) (hsw : swapsWith (.ListComp elt [⟨tg, iter, ifs, 0⟩] scope pos) (some (.Name y py)) spos.line X.env = pure true := by exact sw_true rfl rfl rfl (by decide +kernel))
    (hiM : i ∉ M := by decide) (hs : ∀ x, foldedSetIterable iter X.env x = pure x := by intro _; rfl) :
    DS X W M (i :: M) Lb (.Assign [.Name y py] (.ListComp elt [⟨tg, iter, ifs, 0⟩] scope pos) spos) (newS M i (eCompL it t c e)) := by
  refine psImp (ps_frame (ps_setLc (te := tFr (tD X.K X.mg W0 e)) (tt := tDT X.K X.mg W0 c) (g := tgG X.K t) hc hN hy hyl hsw hi ok hg ht (fun s H C cl fp => pe_frame (he s H C cl fp)) hs)) fun D σ H ⟨G, o, ρ, hm, R, q⟩ => ⟨AD o, R.lsts, ?_⟩
  show tLc _ _ _ _ _ σ _ _
  rw [hsl]
  refine tLc_of ⟨wipeD ρ M, by rw [← hm]; exact R.erase, postC_ofN ?_⟩
  unfold newS at q
  cases e1 : eCompL it t c e (wipeD ρ M) with
  | ok ds =>
    rw [e1] at q
    dsimp only at q
    by_cases hl : i < ρ.length
    rotate_left
    · rw [if_neg hl] at q; exact q.elim
    rw [if_pos hl] at q
    intro a vs H' s na hv
    show (∀ b ∈ AD o, upd H' a (.lst vs) b = none) → D.nx (σ.set i (some (.ref a))) (glue (AD o) H (upd H' a (.lst vs)))
    intro n
    have naA : a ∉ AD o := fun z => by
      have := n a z
      rw [upd_same] at this
      cases this
    have n' : ∀ b ∈ AD o, H' b = none := fun b hb => by
      have := n b hb
      rw [upd_ne (fun z => naA (by rw [← z]; exact hb))] at this
      exact this
    obtain ⟨R', ec⟩ := R.glued s n'
    have eg : glue (AD o) H (upd H' a (.lst vs)) = upd (glue (AD o) H H') a (.lst vs) := by
      funext b
      unfold glue upd
      by_cases h1 : b ∈ AD o
      · have : b ≠ a := fun z => naA (by rw [← z]; exact h1)
        simp [h1, this]
      · simp [h1]
    have hga : glue (AD o) H H' a = none := by rw [glue_out naA]; exact na
    rw [eg]
    exact q _ _ ((i, a) :: o) (by show i :: ID o = _; rw [hm]) (s_new.own_new R' (by rw [hm]; exact hiM) hl hga naA (by rw [ec]; exact hv))
  | err c =>
    rw [e1] at q
    obtain ⟨C, h1, h2⟩ := q
    exact ⟨C, h1, fun d H' s => h2 σ H' d (R.base.trans s) (by rw [← hm]; exact (R.erase).mono s)⟩
  | bad => rw [e1] at q; exact q.elim
end

/-! ### an own list changed -/
/-- the list at slot i -/
def ownL (i : Nat) (ρ : Env) : Res (List PyData) := match ρ[i]? with
  | some (some (.list ds)) => .ok ds
  | _ => .bad
/-- asked first: a list is there -/
def fstL (i : Nat) (f : Sf) : Sf := fun ρ => match ownL i ρ with
  | .ok _ => f ρ
  | _ => .bad
def appS (M : List Nat) (i : Nat) (e : Ex) : Sf := fstL i fun ρ => match e ρ with
  | .ok d => (match ownL i ρ with
    | .ok ds => if ds.length < 16777216 then .nx (ρ.set i (some (.list (ds ++ [d])))) else .bad
    | _ => .bad)
  | .err c => .err c (wipeD ρ M)
  | .bad => .bad
/-- x[k] = e -/
def putS (M : List Nat) (i : Nat) (k e : Ex) : Sf := fstL i fun ρ => match e ρ with
  | .ok d => (match k ρ with
    | .ok (.int z) => (match ownL i ρ with
      | .ok ds => (match ixN ds.length z with
        | some j => .nx (ρ.set i (some (.list (ds.set j d))))
        | none => .bad)
      | _ => .bad)
    | .err c => .err c ρ
    | _ => .bad)
  | .err c => .err c (wipeD ρ M)
  | .bad => .bad
section
variable {K : PySem.W.Frag} {mg : Str → Option Value} {W : WX} {G G' H H' : Hp} {o : Ow} {σ : St} {ρ : Env} {M M' Lb : List Nat} {D : Ends}
theorem mem_id {i : Nat} (h : i ∈ ID o) : ∃ a, (i, a) ∈ o := by
  obtain ⟨⟨j, a⟩, hp, rfl⟩ := List.mem_map.mp h
  exact ⟨a, hp⟩
theorem SRep.ownAt {i : Nat} {a : Addr} {ds : List PyData} (R : SRep K G o H σ ρ) (h : (i, a) ∈ o) (e : ownL i ρ = .ok ds) : ∃ vs, ρ[i]? = some (some (.list ds)) ∧ σ[i]? = some (some (.ref a)) ∧ H a = some (.lst vs) ∧ DpAll K (cut (AD o) H) vs ds := by
  obtain ⟨d, h1, h2, h3⟩ := R.own i a h
  unfold ownL at e
  rw [h1] at e
  cases h3 with
  | lst h3 h4 =>
    cases e
    exact ⟨_, h1, h2, h3, h4⟩
  | dic _ _ => cases e
theorem SRep.fstL {i : Nat} {a : Addr} {f : Sf} (R : SRep K G o H σ ρ) (h : (i, a) ∈ o) (q : SPost K mg W G' M' Lb D (fstL i f ρ)) : (∃ ds vs, ρ[i]? = some (some (.list ds)) ∧ σ[i]? = some (some (.ref a)) ∧ H a = some (.lst vs) ∧ DpAll K (cut (AD o) H) vs ds) ∧ SPost K mg W G' M' Lb D (f ρ) := by
  unfold DL.fstL at q
  cases e : ownL i ρ with
  | ok ds =>
    rw [e] at q
    exact ⟨⟨ds, R.ownAt h e⟩, q⟩
  | err c => rw [e] at q; exact q.elim
  | bad => rw [e] at q; exact q.elim
/-- an own thing has got other items -/
theorem SRep.putO {i : Nat} {a : Addr} {u : HO} {dd : PyData} (R : SRep K G o H σ ρ) (h : (i, a) ∈ o) (hv : OwnD K (cut (AD o) H) (upd H a u) a dd) : SRep K G o (upd H a u) σ (ρ.set i (some dd)) := by
  have haA : a ∈ AD o := List.mem_map.mpr ⟨_, h, rfl⟩
  have ec : cut (AD o) (upd H a u) = cut (AD o) H := cut_upd_in haA
  refine ⟨by rw [List.length_set]; exact R.len, fun j d hj hn => ?_, fun j b hj => ?_, R.nda, R.ndi, by rw [ec]; exact R.base⟩
  · have hij : i ≠ j := fun z => hn (by rw [← z]; exact List.mem_map.mpr ⟨_, h, rfl⟩)
    rw [List.getElem?_set_ne hij] at hj
    rw [ec]
    exact R.get j d hj hn
  · rw [ec]
    obtain ⟨e, h1, h2, h3⟩ := R.own j b hj
    by_cases hij : i = j
    · subst hij
      have hab : b = a := by
        obtain ⟨_, _, g2, _⟩ := R.own i a h
        rw [g2] at h2
        cases h2
        rfl
      subst hab
      have hl : i < ρ.length := (List.getElem?_eq_some_iff.mp h1).1
      exact ⟨dd, List.getElem?_set_self hl, h2, hv⟩
    · have hab : b ≠ a := fun z => hij (by
        have q : (i, a) = (j, b) := SRep.freeze.nodup_snd R.nda h hj z.symm
        cases q
        rfl)
      exact ⟨e, by rw [List.getElem?_set_ne hij]; exact h1, h2, h3.mono (upd_ne hab) (Same.refl _)⟩
theorem SRep.put {i : Nat} {a : Addr} {vs : List V} {ds : List PyData} (R : SRep K G o H σ ρ) (h : (i, a) ∈ o) (hv : DpAll K (cut (AD o) H) vs ds) : SRep K G o (upd H a (.lst vs)) σ (ρ.set i (some (.list ds))) :=
  R.putO h (.lst upd_same hv)
end
section
variable {X : Cx} {W : WX} {M M' M1 M2 Lb : List Nat} {e k : Expr} {fe fk : Ex} {pos px pa pc ps : Pos} {x : Str}
theorem s_app (i : Nat) (h : SE X W M e fe) (hi : X.N[i]? = some x := by rfl) (hv : Vis X.env.scope x := by first | exact Or.inl rfl | exact Or.inr (Or.inl rfl) | exact Or.inr (Or.inr rfl)) (hiM : i ∈ M := by decide) (hd : (x == ("__debug__" : Str)) = false := by decide) (hcd : (x == ("__classdict__" : Str)) = false := by decide)
    (hbase : attributeBase (.Name x px) "append" X.env (eval (.Name x px) X.env) = eval (.Name x px) X.env := by rfl)
    (hfew : ((backTo pc (starEach [e] X.env)).all (fun x => !x.1) && (backToKw pc (keywordEach [] X.env)).all (fun x => x.1.isSome)
      && decide (([e] : List Expr).length + ([] : List Keyword).length + (if ([] : List Keyword).isEmpty then 0 else 1) < 30)) = true := by rfl)
    (hline : (pa.endLine == pc.line) = true := by rfl) (hst : starEach [e] X.env = (false, eval e X.env) :: starEach [] X.env := by rfl) (hplain : (backTo pc (starEach [] X.env)).any (·.1) = false := by rfl)
    (hs : swapsWith (.Call (.Attribute (.Name x px) "append" pa) [e] [] pc) none pos.line X.env = pure false := by rfl) : DS X W M M Lb (.Expr (.Call (.Attribute (.Name x px) "append" pa) [e] [] pc) pos) (appS M i fe) := by
  have hb : PE X (.Call (.Attribute (.Name x px) "append" pa) [e] [] pc) (tBM X.K "list" rAppend (tVar i) (tCons (tSE X.K X.mg W M fe) tNil)) := pe_bm PySem.F.plainAttrs_list PySem.F.slot_list_append PySem.F.type_list_append mt_append (pv i hi hv hd hcd) (pa_cons h pa_nil hst) hbase hfew hline hst hplain
  refine psImp (ps_expr hb hs) fun D σ H ⟨G, o, ρ, hm, R, q⟩ => ?_
  obtain ⟨a, ha⟩ := mem_id (by rw [hm]; exact hiM)
  unfold appS at q
  obtain ⟨⟨ds0, vs0, g1, g2, g3, g4⟩, q⟩ := R.fstL ha q
  refine ⟨.ref a, g2, .inl ⟨rfl, _, .inl (.inl g3)⟩, G, o, ρ, hm, R, ?_⟩
  cases e1 : fe ρ with
  | ok d =>
    rw [e1] at q
    intro v H' R' r
    dsimp only at q
    cases e2 : ownL i ρ with
    | ok ds =>
      rw [e2] at q
      dsimp only at q
      obtain ⟨vs, k1, k2, k3, k4⟩ := R'.ownAt ha e2
      by_cases hl : ds.length < 16777216
      · rw [if_pos hl] at q
        refine ⟨a, vs, v, rfl, rfl, k3, by rw [k4.len, sizeLine_eq]; exact hl, q σ _ o hm (R'.put ha (k4.app (.cons r .nil)))⟩
      · rw [if_neg hl] at q
        exact q.elim
    | err c => rw [e2] at q; exact q.elim
    | bad => rw [e2] at q; exact q.elim
  | err c =>
    rw [e1] at q
    obtain ⟨C, h1, h2⟩ := q
    exact ⟨C, h1, fun H' d s r => h2 σ H' d s (by rw [← hm]; exact r)⟩
  | bad => rw [e1] at q; exact q.elim
theorem s_put (i : Nat) (h : SE X W M e fe) (hk : DE X W k fk) (hi : X.N[i]? = some x := by rfl) (hv : Vis X.env.scope x := by first | exact Or.inl rfl | exact Or.inr (Or.inl rfl) | exact Or.inr (Or.inr rfl)) (hiM : i ∈ M := by decide) (hd : (x == ("__debug__" : Str)) = false := by decide) (hcd : (x == ("__classdict__" : Str)) = false := by decide)
    (ha : ∀ v, assign (.Subscript (.Name x px) k ps) X.env v = (do
      let ov ← holding [v] (eval (.Name x px) X.env)
      let iv ← holding [v, ov] (eval k X.env)
      standAt ps
      holding [v, ov, iv] (setItem ov iv v)
      release [v, ov, iv] []) := by intro _; rfl)
    (hs : swapsWithSole [.Subscript (.Name x px) k ps] e pos.line X.env = pure false := by rfl) (hw : swappedStores [.Subscript (.Name x px) k ps] e X.env = pure none := by rfl)
    (h1 : (assignEach [.Subscript (.Name x px) k ps] X.env).map (·.2) = [assign (.Subscript (.Name x px) k ps) X.env] := by rfl) :
    DS X W M M Lb (.Assign [.Subscript (.Name x px) k ps] e pos) (putS M i fk fe) := by
  refine psImp (ps_asg h (pg_sub (pe_var hi hv hd hcd) hk set_list ha) hs hw h1) fun D σ H ⟨G, o, ρ, hm, R, q⟩ => ⟨G, o, ρ, hm, R, ?_⟩
  obtain ⟨a, ha⟩ := mem_id (by rw [hm]; exact hiM)
  unfold putS at q
  obtain ⟨_, q⟩ := R.fstL ha q
  cases e1 : fe ρ with
  | ok d =>
    rw [e1] at q
    intro v H' R' r
    dsimp only at q
    obtain ⟨dd0, g1, g2, g3⟩ := R'.own i a ha
    refine ⟨.ref a, g2, ρ, R'.full, ?_⟩
    cases e2 : fk ρ with
    | ok z =>
      rw [e2] at q
      intro kv H2 s2 rk
      cases z with
      | int z =>
        dsimp only at q
        cases e3 : ownL i ρ with
        | ok ds =>
          rw [e3] at q
          dsimp only at q
          have R2 := R'.mono s2
          obtain ⟨vs, k1, k2, k3, k4⟩ := R2.ownAt ha e3
          cases e4 : ixN ds.length z with
          | some j =>
            rw [e4] at q
            refine ⟨a, vs, z, j, rfl, dp_int rk, k3, by rw [k4.len]; exact e4, q σ _ o hm (R2.put ha (DpAll.set (dpMono (cutMono s2) r) j k4))⟩
          | none => rw [e4] at q; exact q.elim
        | err c => rw [e3] at q; exact q.elim
        | bad => rw [e3] at q; exact q.elim
      | _ => exact q.elim
    | err c =>
      rw [e2] at q
      obtain ⟨C, h1, h2⟩ := q
      exact ⟨C, h1, fun d H2 s => h2 σ H2 d (R'.same.trans s) (R'.full.mono s)⟩
    | bad => rw [e2] at q; exact q.elim
  | err c =>
    rw [e1] at q
    obtain ⟨C, h1, h2⟩ := q
    exact ⟨C, h1, fun H' d s r => h2 σ H' d s (by rw [← hm]; exact r)⟩
  | bad => rw [e1] at q; exact q.elim
end
end L2.DL
set_option maxHeartbeats 2000000
namespace L2.DL
open PySem PySem.Spec PyProof.Rows

/-! ### for -/
def loopS (t : Tgt) (fb : Sf) : List PyData → Env → SRes
  | [], ρ => .nx ρ
  | d :: ds, ρ => match bindT t d ρ with
    | .ok ρ1 => (match fb ρ1 with
      | .nx ρ2 => loopS t fb ds ρ2
      | .cnt ρ2 => loopS t fb ds ρ2
      | .brk ρ2 => .nx ρ2
      | r => r)
    | _ => .bad
def forS (M : List Nat) (it : Itr') (t : Tgt) (fb : Sf) : Sf := fun ρ => match it (wipeD ρ M) with
  | .ok ds => loopS t fb ds ρ
  | .err c => .err c (wipeD ρ M)
  | .bad => .bad
section
variable {X : Cx} {W : WX} {M M' M1 M2 Lb : List Nat} {tg iter c : Expr} {body : List Stmt} {fi : Itr'} {t : Tgt} {fb : Sf} {fc : Te} {pos : Pos}
theorem s_for (hp : PassesOwn (model X.prog X.w) X.A X.env X.xe) (hc : X.calm = true) (hi : DI X W tg iter fi) (hg : DG X tg t) (hb : DSs X W M M M body fb) (hd : ∀ i ∈ t.slots, i ∉ M := by decide) (hs : ∀ x, foldedSetIterable iter X.env x = pure x := by intro _; rfl) :
    DS X W M M Lb (.For tg iter body [] pos) (forS M fi t fb) := by
  refine psImp (ps_for hp hc (pi_frame hi) hg hb hs) fun D σ H ⟨G, o, ρ, hm, R, q⟩ => ⟨AD o, R.lsts, wipeD ρ M, by rw [← hm]; exact R.erase, ?_⟩
  unfold forS at q
  cases ei : fi (wipeD ρ M) with
  | err c =>
    rw [ei] at q
    obtain ⟨C, h1, h2⟩ := q
    exact ⟨C, h1, fun d H' s => h2 σ H' d (R.base.trans s) (by rw [← hm]; exact (R.erase).mono s)⟩
  | bad => rw [ei] at q; exact q.elim
  | ok ds =>
    rw [ei] at q
    dsimp only at q
    obtain ⟨r, hr⟩ : ∃ r, loopS t fb ds ρ = r := ⟨_, rfl⟩
    rw [hr] at q
    intro J B s w n
    obtain ⟨R', ec⟩ := R.glued s n
    have sGB : Same G B := R.base.trans s
    have RB : SRep X.K B o (glue (AD o) H B) σ ρ := R'.grow sGB (by rw [ec]; exact Same.refl _)
    refine for_it w.walk (fun i σ H => ∃ o' ρi, ID o' = M ∧ SRep X.K B o' H σ ρi ∧ loopS t fb (ds.drop i) ρi = r) ⟨o, ρ, hm, RB, hr⟩ (fun i σ H _ ⟨o', ρi, _, Ri, _⟩ => Ri.same) ?_ ?_
    · rintro i x σ2 H2 H3 hi' ⟨o', ρi, hm', Ri, el⟩ ⟨d, hd', y⟩
      have s2 : Same B H2 := Ri.same
      obtain ⟨s3, hx⟩ := dp_yd s2 y
      have R3 := Ri.mono s3
      have hxc : Dp X.K (cut (AD o') H3) x d := by
        rcases y with ⟨rfl, h⟩ | ⟨T, ob, us, es, hdn, hT, rfl, rfl, ha, rfl⟩
        · exact dpMono Ri.base h
        · have nT : T ∉ AD o' := fun z => by
            obtain ⟨o1, e', _⟩ := Ri.lsts T z
            rw [hT] at e'; cases e'
          rw [cut_upd nT]
          have nT2 : cut (AD o') H2 T = none := by rw [cut_out nT]; exact hT
          exact .tup (.inl ⟨ob, upd_same, hdn⟩) (dpAllMono (Ri.base.trans (sameUpd nT2)) ha)
      have hdrop : ds.drop i = d :: ds.drop (i + 1) := by
        obtain ⟨hi2, e'⟩ := List.getElem?_eq_some_iff.mp hd'
        rw [← e', ← List.drop_eq_getElem_cons hi2]
      rw [hdrop] at el
      unfold loopS at el
      cases eb : bindT t d ρi with
      | err c => rw [eb] at el; rw [← el] at q; exact q.elim
      | bad => rw [eb] at el; rw [← el] at q; exact q.elim
      | ok ρ1 =>
        rw [eb] at el
        dsimp only at el
        refine s_asg.bind_own R3 hxc (by rw [hm']; exact hd) eb fun σ' R4 => ⟨B, o', ρ1, hm', R4, ?_⟩
        cases ef : fb ρ1 with
        | nx ρ2 => rw [ef] at el; exact fun σ5 H5 o5 hm5 R5 => ⟨o5, ρ2, hm5, R5, el⟩
        | cnt ρ2 => rw [ef] at el; exact fun σ5 H5 o5 hm5 R5 => ⟨o5, ρ2, hm5, R5, el⟩
        | brk ρ2 =>
          rw [ef] at el
          dsimp only at el
          rw [← el] at q
          exact fun σ5 H5 o5 hm5 R5 => q σ5 H5 o5 hm5 (R5.shrink sGB)
        | ret d =>
          rw [ef] at el
          dsimp only at el
          rw [← el] at q
          exact fun v H5 s5 r5 => q v H5 (sGB.trans s5) r5
        | err c ρ2 =>
          rw [ef] at el
          dsimp only at el
          rw [← el] at q
          obtain ⟨C, h1, h2⟩ := q
          exact ⟨C, h1, fun σ5 H5 d s5 r5 => h2 σ5 H5 d (sGB.trans s5) r5⟩
        | bad => rw [ef] at el; dsimp only at el; rw [← el] at q; exact q.elim
    · rintro σ2 H2 ⟨o', ρi, hm', Ri, el⟩
      rw [List.drop_length] at el
      rw [← el] at q
      exact q σ2 H2 o' hm' (Ri.shrink sGB)
end

/-! ### while -/
def whileN (fc : Te) (fb : Sf) : Nat → Env → SRes
  | 0, _ => .bad
  | n + 1, ρ => match fc ρ with
    | .ok k => if k = true then (match fb ρ with
      | .nx ρ2 => whileN fc fb n ρ2
      | .cnt ρ2 => whileN fc fb n ρ2
      | .brk ρ2 => .nx ρ2
      | r => r) else .nx ρ
    | .err c => .err c ρ
    | .bad => .bad
open Classical in
noncomputable def whileS (fc : Te) (fb : Sf) : Sf := fun ρ => if h : ∃ n, whileN fc fb n ρ ≠ .bad then whileN fc fb (Classical.choose h) ρ else .bad
theorem whileN_more {fc : Te} {fb : Sf} : ∀ {n : Nat} {ρ : Env}, whileN fc fb n ρ ≠ .bad → ∀ m, n ≤ m → whileN fc fb m ρ = whileN fc fb n ρ
  | 0, _, h, _, _ => absurd rfl h
  | n + 1, ρ, h, 0, hm => by omega
  | n + 1, ρ, h, m + 1, hm => by
    unfold whileN at h ⊢
    cases e1 : fc ρ with
    | ok k =>
      rw [e1] at h
      dsimp only at h ⊢
      cases k with
      | false => rfl
      | true =>
        rw [if_pos rfl] at h ⊢
        rw [if_pos rfl]
        cases e2 : fb ρ with
        | nx ρ2 => rw [e2] at h; exact whileN_more h m (by omega)
        | cnt ρ2 => rw [e2] at h; exact whileN_more h m (by omega)
        | brk ρ2 => rfl
        | ret d => rfl
        | err c ρ2 => rfl
        | bad => rfl
    | err c => rfl
    | bad => rfl
theorem whileS_of {fc : Te} {fb : Sf} {n : Nat} {ρ : Env} {r : SRes} (h : whileN fc fb n ρ = r) (hr : r ≠ .bad) : whileS fc fb ρ = r := by
  have hn : whileN fc fb n ρ ≠ .bad := by rw [h]; exact hr
  have ex : ∃ n, whileN fc fb n ρ ≠ .bad := ⟨n, hn⟩
  unfold whileS
  rw [dif_pos ex]
  have hc := Classical.choose_spec ex
  rw [← whileN_more hc (max n (Classical.choose ex)) (Nat.le_max_right _ _), whileN_more hn _ (Nat.le_max_left _ _), h]
theorem whileS_is {fc : Te} {fb : Sf} {ρ : Env} (h : whileS fc fb ρ ≠ .bad) : ∃ n, whileN fc fb n ρ = whileS fc fb ρ := by
  unfold whileS at h ⊢
  split at h
  · rename_i ex
    exact ⟨_, by rw [dif_pos ex]⟩
  · exact absurd rfl h
/-- one turn -/
theorem whileS_step {fc : Te} {fb : Sf} {ρ : Env} : whileS fc fb ρ = match fc ρ with
    | .ok k => if k = true then (match fb ρ with
      | .nx ρ2 => whileS fc fb ρ2
      | .cnt ρ2 => whileS fc fb ρ2
      | .brk ρ2 => .nx ρ2
      | r => r) else .nx ρ
    | .err c => .err c ρ
    | .bad => .bad := by
  have one : ∀ n, whileN fc fb (n + 1) ρ = match fc ρ with
    | .ok k => if k = true then (match fb ρ with
      | .nx ρ2 => whileN fc fb n ρ2
      | .cnt ρ2 => whileN fc fb n ρ2
      | .brk ρ2 => .nx ρ2
      | r => r) else .nx ρ
    | .err c => .err c ρ
    | .bad => .bad := fun n => rfl
  have go : ∀ ρ2, (∀ n, whileN fc fb (n + 1) ρ = whileN fc fb n ρ2) → whileS fc fb ρ = whileS fc fb ρ2 := fun ρ2 hh => by
    by_cases h2 : whileS fc fb ρ2 = .bad
    · rw [h2]
      by_cases h1 : whileS fc fb ρ = .bad
      · exact h1
      · obtain ⟨n, hn⟩ := whileS_is h1
        have hn' : whileN fc fb n ρ ≠ .bad := by rw [hn]; exact h1
        have h3 := whileN_more hn' (n + 1) (by omega)
        rw [hh n] at h3
        have h4 : whileN fc fb n ρ2 ≠ .bad := by rw [h3]; exact hn'
        exact absurd h2 (by rw [whileS_of rfl h4]; exact h4)
    · obtain ⟨n, hn⟩ := whileS_is h2
      exact whileS_of (n := n + 1) (by rw [hh n, hn]) h2
  have fin : ∀ r, (∀ n, whileN fc fb (n + 1) ρ = r) → whileS fc fb ρ = r := fun r hh => by
    by_cases hr : r = .bad
    · subst hr
      by_cases h1 : whileS fc fb ρ = .bad
      · exact h1
      · obtain ⟨n, hn⟩ := whileS_is h1
        have hn' : whileN fc fb n ρ ≠ .bad := by rw [hn]; exact h1
        have h3 := whileN_more hn' (n + 1) (by omega)
        rw [hh n] at h3
        exact absurd h3.symm hn'
    · exact whileS_of (hh 0) hr
  cases e1 : fc ρ with
  | ok k =>
    cases k with
    | false => exact fin _ fun n => by rw [one, e1]; rfl
    | true =>
      dsimp only
      rw [if_pos rfl]
      cases e2 : fb ρ with
      | nx ρ2 => exact go ρ2 fun n => by rw [one, e1, e2]; rfl
      | cnt ρ2 => exact go ρ2 fun n => by rw [one, e1, e2]; rfl
      | brk ρ2 => exact fin _ fun n => by rw [one, e1, e2]; rfl
      | ret d => exact fin _ fun n => by rw [one, e1, e2]; rfl
      | err c ρ2 => exact fin _ fun n => by rw [one, e1, e2]; rfl
      | bad => exact fin _ fun n => by rw [one, e1, e2]; rfl
  | err c => exact fin _ fun n => by rw [one, e1]
  | bad => exact fin _ fun n => by rw [one, e1]
section
variable {X : Cx} {W : WX} {M M' M1 M2 Lb : List Nat} {c : Expr} {body : List Stmt} {fb : Sf} {fc : Te} {pos : Pos}
theorem s_while (hp : PassesOwn (model X.prog X.w) X.A X.env X.xe) (hc : DT X W c fc) (hb : DSs X W M M M body fb) : DS X W M M Lb (.While c body [] pos) (whileS fc fb) := by
  refine psImp (ps_while hp hc hb) fun D σ H ⟨G, o, ρ, hm, R, q⟩ => ?_
  have hne : whileS fc fb ρ ≠ .bad := fun z => by rw [z] at q; exact q
  obtain ⟨n0, hn0⟩ := whileS_is hne
  refine ⟨fun m σ H => ∃ o ρ', ID o = M ∧ SRep X.K G o H σ ρ' ∧ whileN fc fb m ρ' = whileS fc fb ρ, ⟨n0, o, ρ, hm, R, hn0⟩, ?_⟩
  rintro m σ1 H1 ⟨o1, ρ1, hm1, R1, el⟩
  cases m with
  | zero => exact absurd el.symm hne
  | succ m =>
    refine ⟨ρ1, R1.full, ?_⟩
    unfold whileN at el
    cases e1 : fc ρ1 with
    | ok k =>
      rw [e1] at el
      intro H2 s2
      have R2 := R1.mono s2
      cases k with
      | true =>
        dsimp only at el
        rw [if_pos rfl] at el
        refine iteT ⟨fun σ' H' => ∃ o ρ', ID o = M ∧ SRep X.K G o H' σ' ρ' ∧ whileN fc fb m ρ' = whileS fc fb ρ, fun σ' H' h => ⟨m, Nat.lt_succ_self _, h⟩, G, o1, ρ1, hm1, R2, ?_⟩
        cases ef : fb ρ1 with
        | nx ρ2 => rw [ef] at el; exact fun σ5 H5 o5 hm5 R5 => ⟨o5, ρ2, hm5, R5, el⟩
        | cnt ρ2 => rw [ef] at el; exact fun σ5 H5 o5 hm5 R5 => ⟨o5, ρ2, hm5, R5, el⟩
        | brk ρ2 =>
          rw [ef] at el
          dsimp only at el
          rw [← el] at q
          exact fun σ5 H5 o5 hm5 R5 => q σ5 H5 o5 hm5 R5
        | ret d =>
          rw [ef] at el
          dsimp only at el
          rw [← el] at q
          exact q
        | err c ρ2 =>
          rw [ef] at el
          dsimp only at el
          rw [← el] at q
          exact q
        | bad => rw [ef] at el; dsimp only at el; exact absurd el.symm hne
      | false =>
        dsimp only at el
        rw [if_neg Bool.false_ne_true] at el
        rw [← el] at q
        exact iteF (q σ1 H2 o1 hm1 R2)
    | err c =>
      rw [e1] at el
      dsimp only at el
      rw [← el] at q
      obtain ⟨C, h1, h2⟩ := q
      exact ⟨C, h1, fun d H' s => h2 σ1 H' d (R1.same.trans s) (R1.full.mono s)⟩
    | bad => rw [e1] at el; dsimp only at el; exact absurd el.symm hne
end

/-! ### raise -/
/-- an own exception of the text -/
structure ExcT (K : PySem.W.Frag) (mg : Str → Option Value) (c : Str) : Prop where
  ex : ∃ C, mg c = some (.ref C) ∧ PySem.W.excIn K C [.type "ValueError", .type "Exception", .type "BaseException", .type "object"] "ValueError.__new__" = true ∧ PySem.W.keepIn K (.ref C) = true ∧
    PySem.W.subIn K (.ref C) (.type "BaseException") = some true ∧ PySem.W.typeIn K (.ref C) = some (.type "type")
section
variable {X : Cx} {W : WX} {M M' M1 M2 Lb : List Nat} {c m : Str} {j : Nat} {p p2 pos pos2 : Pos}
theorem s_raise (T : ExcT X.K X.mg c) (hc : X.calm = true) (tk : Takes X W) (hg : Gl X c := by rfl) (hdb : (c == ("__debug__" : Str)) = false := by decide) : DS X W M M' Lb (.Raise (some (.Call (.Name c p) [.Constant (.str m) j p2] [] pos)) none pos2) (raiseS c) := by
  obtain ⟨C, gC, q, kC, r1, r2⟩ := T.ex
  refine psImp (ps_raise hc tk (pmk_own PySem.F.excBase_ValueError q gC kC (raises_own r1 r2) hg hdb)) fun D σ H ⟨G, o, ρ, hm, R, q⟩ => ?_
  obtain ⟨C', h1, h2⟩ := q
  rw [gC] at h1
  cases h1
  exact h2 σ H ⟨none, rfl⟩ R.same R.full
theorem s_never {st : Stmt} : DS X W M M' Lb st (fun _ => .bad) := psImp ps_never fun D σ H ⟨G, o, ρ, hm, R, q⟩ => q
end

/-! ### a def -/
def startD (n : Nat) (ds : List PyData) : Env := ds.map some ++ List.replicate (n - ds.length) none
/-- a def of n slots with the body s, on the arguments ds -/
def runD (n : Nat) (s : Sf) (ds : List PyData) : Res PyData := match s (startD n ds) with
  | .nx _ => .ok .none
  | .ret d => .ok d
  | .err c _ => .err c
  | _ => .bad
abbrev WOf (E : XK) : WX := fun cls d _ H => E cls d H
theorem dps_start {K : PySem.W.Frag} {H : Hp} {N : List Str} {vs : List V} {ds : List PyData} (h : DpAll K H vs ds) : SRep K H [] H (L2.start N vs) (startD N.length ds) := by
  have hl := h.len
  refine ⟨by unfold L2.start startD; rw [List.length_append, List.length_append, List.length_map, List.length_map, List.length_replicate, List.length_replicate, hl], fun i d e _ => ?_, fun i a h => (by cases h), .nil, .nil, fun b o q => ?_⟩
  · unfold startD at e
    by_cases hi : i < ds.length
    · rw [List.getElem?_append_left (by rw [List.length_map]; exact hi), List.getElem?_map] at e
      cases e2 : ds[i]? with
      | none => rw [e2] at e; cases e
      | some d' =>
        rw [e2] at e
        cases e
        obtain ⟨v, h1, h2⟩ := h.get e2
        refine ⟨v, ?_, dpMono (fun b o q => by rw [cut_out (by simp)]; exact q) h2⟩
        unfold L2.start
        rw [List.getElem?_append_left (by rw [List.length_map, hl]; exact hi), List.getElem?_map, h1]
        rfl
    · rw [List.getElem?_append_right (by rw [List.length_map]; omega), List.getElem?_replicate] at e
      split at e <;> cases e
  · rw [cut_out (by simp)]; exact q
section
variable {P : Program} {w : World} {K : PySem.W.Frag} {mg : Str → Option Value} {base : Heap}
theorem fn_mk' {x qual : Str} {st : Stmt} {f : Addr} {fd : FuncData} {N ps : List Str} {k n m : Nat} {s : Sf} {M' : List Nat} (F : Fun K x qual st f fd) (S : FnScope N ps (defScope st)) (hn : ps.length = n) (hN : N.length = m)
    (body : ∀ (cdv : Value) (A : Around) (outer : List PySem.Env) (s0 : Shared) (H : Hp) (E : XK), Room k (A.deeper (envOfC qual (defScope st) s0.heap.objs.size f cdv)) →
      Takes (cxOf (L2.CX P w) P w K mg base N qual (defScope st) f cdv A outer s0 H E) (WOf E) →
      PassesOwn (model P w) (A.deeper (envOfC qual (defScope st) s0.heap.objs.size f cdv)) (cxOf (L2.CX P w) P w K mg base N qual (defScope st) f cdv A outer s0 H E).env (cxOf (L2.CX P w) P w K mg base N qual (defScope st) f cdv A outer s0 H E).xe →
      DSs (cxOf (L2.CX P w) P w K mg base N qual (defScope st) f cdv A outer s0 H E) (WOf E) [] M' [] (defBody st) s) : FnOk P w K mg base (L2.CX P w) (k + 1) f fd ps (spD K mg n (runD m s)) := by
  subst hN
  refine F.okX S (fun vs H Q E h => h.1.trans hn.symm) fun cdv A outer s0 H vs Q E hr h => ?_
  refine ⟨_, body cdv A outer s0 H E hr (takes_of rfl rfl rfl rfl) (passes_of rfl), ?_⟩
  obtain ⟨hl, ds, hv, q⟩ := h
  refine ⟨H, [], startD N.length ds, rfl, dps_start hv, ?_⟩
  unfold runD at q
  cases e : s (startD N.length ds) with
  | nx ρ => rw [e] at q; exact fun σ' H' o _ R => q .non H' R.same .non
  | ret d => rw [e] at q; exact q
  | err c ρ =>
    rw [e] at q
    obtain ⟨C, h1, h2⟩ := q
    exact ⟨C, h1, fun σ' H' d s _ => h2 d H' s⟩
  | brk ρ => rw [e] at q; exact q.elim
  | cnt ρ => rw [e] at q; exact q.elim
  | bad => rw [e] at q; exact q.elim
theorem Df.mk' {x qual : Str} {st : Stmt} {f : Addr} {fd : FuncData} {N ps : List Str} {k n m : Nat} {s : Sf} {M' : List Nat} (F : Fun K x qual st f fd) (hm : mg x = some (.ref f)) (b : Binds K fd ps []) (S : FnScope N ps (defScope st)) (hn : ps.length = n) (hN : N.length = m)
    (body : ∀ (cdv : Value) (A : Around) (outer : List PySem.Env) (s0 : Shared) (H : Hp) (E : XK), Room k (A.deeper (envOfC qual (defScope st) s0.heap.objs.size f cdv)) →
      Takes (cxOf (L2.CX P w) P w K mg base N qual (defScope st) f cdv A outer s0 H E) (WOf E) →
      PassesOwn (model P w) (A.deeper (envOfC qual (defScope st) s0.heap.objs.size f cdv)) (cxOf (L2.CX P w) P w K mg base N qual (defScope st) f cdv A outer s0 H E).env (cxOf (L2.CX P w) P w K mg base N qual (defScope st) f cdv A outer s0 H E).xe →
      DSs (cxOf (L2.CX P w) P w K mg base N qual (defScope st) f cdv A outer s0 H E) (WOf E) [] M' [] (defBody st) s) : Df P w K mg base x (k + 1) n (runD m s) := ⟨f, fd, ps, fn_mk' F S hn hN body, hm, F.kp, b⟩
/-- the law's own promise: True of every script of at most 63 whole numbers -/
def spLaw (K : PySem.W.Frag) : Sp := fun vs H Q _ => ∃ (a : Addr) (ns : List Int), vs = [.ref a] ∧ SqL K H a (ns.map V.int) ∧ ns.length ≤ 63 ∧ ∀ H', Q (.bl true) H'
theorem law_fn {f : Addr} {fd : FuncData} {par : Str} {k : Nat} {fn : List PyData → Res PyData} (F : FnOk P w K mg base (L2.CX P w) k f fd [par] (spD K mg 1 fn)) (hlaw : ∀ ns : List Int, ns.length ≤ 63 → fn [.list (ns.map .int)] = .ok (.bool true)) :
    FnOk P w K mg base (L2.CX P w) k f fd [par] (spLaw K) := F.imp fun vs H Q E ⟨a, ns, e, hs, hl, q⟩ => by
  subst e
  refine ⟨rfl, [.list (ns.map .int)], .cons (.lst hs (of_ints ns)) .nil, ?_⟩
  rw [hlaw ns hl]
  intro v H' _ r
  rw [dp_bool r]
  exact q H'
theorem cx_end {H : Hp} {s s' : Shared} {e : Value} (h : L2.CX P w [] H s (fun _ _ _ => False) e s') : False := by
  obtain ⟨_, _, _, _, _, _, _, _, _, _, _, _, z⟩ := h
  exact z
end
end L2.DL
set_option maxHeartbeats 2000000
namespace L2.DL
open PySem PySem.Spec PyProof.Rows

/-! ### t.index(k), k and the items whole numbers -/
def oIndexT (d k : PyData) : Option PyData := match d, k with
  | .tuple xs, .int k => (toInts xs).bind fun ns => if k ∈ ns then some (.int ((ns.idxOf k : Nat) : Int)) else none
  | _, _ => none
theorem flat_ints (ys : List Int) : (ys.map V.int).all flatV = true := by
  rw [List.all_map]
  exact List.all_eq_true.mpr fun _ _ => rfl
theorem idxOf_first : ∀ {ns : List Int} {k : Int}, k ∈ ns → ns[ns.idxOf k]? = some k ∧ ∀ m, m < ns.idxOf k → ns[m]? ≠ some k
  | [], k, h => by cases h
  | a :: r, k, h => by
    by_cases e : a = k
    · subst e
      have z : (a :: r).idxOf a = 0 := by simp
      rw [z]
      exact ⟨rfl, fun m hm => absurd hm (Nat.not_lt_zero m)⟩
    · have hr : k ∈ r := (List.mem_cons.mp h).resolve_left (Ne.symm e)
      obtain ⟨h1, h2⟩ := idxOf_first hr
      have hb : (a == k) = false := by simpa using e
      have z : (a :: r).idxOf k = r.idxOf k + 1 := by simp [List.idxOf_cons, hb]
      rw [z]
      refine ⟨h1, fun m hm => ?_⟩
      cases m with
      | zero => intro z; exact e (Option.some.inj z)
      | succ m => exact h2 m (by omega)
def rTupIx (K : PySem.W.Frag) : V → List V → Hp → VK → Prop := fun x xs H Q => ∃ (p : Addr) (ys : List Int) (k : Int) (j : Nat), x = .ref p ∧ xs = [.int k] ∧ SqT K H p (ys.map V.int) ∧ ys[j]? = some k ∧ (∀ m, m < j → ys[m]? ≠ some k) ∧ Q (.int (j : Nat)) H
theorem mt_tup_indexI {X : Cx} : MtR X "tuple.index" (rTupIx X.K) := by
  intro pins s σ H x xs v us Q I rx rs h
  obtain ⟨p, ys, z, j, rfl, rfl, hq, hy, hno, q⟩ := h
  cases rx
  obtain ⟨u, rfl, t, rfl⟩ := vals1 rs
  obtain ⟨its, r, pl, hz⟩ := I.tuple hq
  obtain ⟨⟨cls, dd, dt, sl⟩, ho, hc, n, hd⟩ := pl
  simp only at hc hd
  subst hc
  subst hd
  have hl : its.toArray.size = ys.length := by rw [List.size_toArray, ← r.length, List.length_map]
  have hj : j < its.toArray.size := by rw [hl]; exact (List.getElem?_eq_some_iff.mp hy).1
  have at' : ∀ (m : Nat) (hm : m < its.toArray.size), ∃ y t', ys[m]? = some y ∧ its.toArray[m] = Value.int y t' := fun m hm => by
    have hm' : m < ys.length := by rw [← hl]; exact hm
    obtain ⟨w, hw, t', hw'⟩ := r.get (i := m) (x := .int ys[m]) (by simp [hm'])
    refine ⟨ys[m], t', List.getElem?_eq_getElem hm', ?_⟩
    have e := (List.getElem?_eq_some_iff.mp hw).2
    rw [← hw', ← e]
    simp
  refine call_meets PySem.F.slot_tuple_index ⟨_, ho, rfl⟩ PySem.F.entry_tuple_index (PySem.F.args_tuple_index_2 _ _) (TI.tuple_indexAt p its.toArray n dd sl (.int z t) (eqU (.int z)) j hj ?_ ?_)
    ⟨ho, fun w hw => mem_eqAt (x := .int z) ⟨t, rfl⟩ rfl r (flat_ints ys) w (by simpa using hw), ⟨.int (j : Nat), H, I.tok _, ⟨_, rfl⟩, q⟩⟩
  · obtain ⟨y, t', h1, h2⟩ := at' j hj
    rw [hy] at h1
    cases h1
    rw [h2]
    show (z == z) = true
    exact beq_self_eq_true z
  · intro m hm hmj
    obtain ⟨y, t', h1, h2⟩ := at' m hm
    rw [h2]
    show (y == z) = false
    exact beq_eq_false_iff_ne.mpr fun e => hno m hmj (e ▸ h1)
section
variable {X : Cx} {W : WX} {a b c : Expr} {fa fb fc : Ex} {p pa pos : Pos} {tg : Expr}
def eTupIx (f g : Ex) : Ex := fun ρ => (f ρ).bind fun x => match x with
  | .tuple _ => (g ρ).bind fun y => Res.of (oIndexT x y)
  | _ => .bad
/-- a method of a tuple whose object has no dict -/
def tBMT (K : PySem.W.Frag) (r : V → List V → Hp → VK → Prop) (to : TE) (t : TA) : TE := fun σ H Q => to σ H fun x H1 => (∃ p xs, x = .ref p ∧ PlT K H1 p xs) ∧ t σ H1 fun xs H2 => r x xs H2 Q
theorem pe_bmT {o e : Expr} {es : List Expr} {to : TE} {t : TA} {name : Str} {apos cpos : Pos} {id : String} {r : V → List V → Hp → VK → Prop} (pa : PlainAttrs "tuple") (slot : Slot "tuple" name id) (hty : typeOf (.builtin id) = pure (.type "method_descriptor")) (hm : MtR X id r) (ho : PE X o to) (ha : PA X (e :: es) t)
    (hbase : attributeBase o name X.env (eval o X.env) = eval o X.env := by rfl)
    (hfew : ((backTo cpos (starEach (e :: es) X.env)).all (fun x => !x.1) && (backToKw cpos (keywordEach [] X.env)).all (fun x => x.1.isSome)
      && decide ((e :: es).length + ([] : List Keyword).length + (if ([] : List Keyword).isEmpty then 0 else 1) < 30)) = true := by rfl)
    (hline : (apos.endLine == cpos.line) = true := by rfl) (hs : starEach (e :: es) X.env = (false, eval e X.env) :: starEach es X.env := by rfl) (hplain : (backTo cpos (starEach es X.env)).any (·.1) = false := by rfl) :
    PE X (.Call (.Attribute o name apos) (e :: es) [] cpos) (tBMT X.K r to t) := by
  refine ⟨fun pins s σ H Q I h => ?_⟩
  refine wpAny_Call_method_late hbase hfew hline rfl (thn (ho.run pins s σ H _ I h) fun v s1 ⟨x, H1, I1, r1, ⟨p, xs, ex, hp⟩, q1⟩ => ?_)
  subst ex
  cases r1
  have ob : s1.TypeIs (.ref p) "tuple" ∧ ∀ a, Value.ref p = .ref a → ∃ ob, s1.heap.get? a = some ob ∧ ob.dict = none := by
    rcases hp with ⟨o, h, d⟩ | ⟨o, its, n, hk, hc, hd, _⟩
    · obtain ⟨e, _, _, _, o', e', c', _⟩ := I1.hok p _ h
      rw [e] at e'
      cases e'
      exact ⟨⟨o, e, c'⟩, fun a z => by cases z; exact ⟨o, e, d⟩⟩
    · exact ⟨⟨o, I1.kIn p o hk, hc⟩, fun a z => by cases z; exact ⟨o, I1.kIn p o hk, hd⟩⟩
  refine ⟨"tuple", id, pa, slot, hty, ob.1, ob.2, ?_⟩
  have hA := ha.run cpos pins s1 σ H1 _ I1 q1
  rw [hs] at hA ⊢
  refine Calls.callWith_builtin (by show (false || (backTo cpos (starEach es X.env)).any (·.1)) = false; rw [hplain] <;> rfl) (Calls.evalArgs_plain ?_)
  exact thn hA fun us s2 ⟨vs, H2, I2, r2, q2⟩ => hm pins s2 σ H2 (.ref p) vs _ us Q I2 rfl r2 q2
theorem d_tupIndex (ha : DE X W a fa) (hb : DE X W b fb) (hbase : attributeBase a "index" X.env (eval a X.env) = eval a X.env := by rfl)
    (hfew : ((backTo pos (starEach [b] X.env)).all (fun x => !x.1) && (backToKw pos (keywordEach [] X.env)).all (fun x => x.1.isSome)
      && decide (([b] : List Expr).length + ([] : List Keyword).length + (if ([] : List Keyword).isEmpty then 0 else 1) < 30)) = true := by rfl)
    (hline : (pa.endLine == pos.line) = true := by rfl) (hs : starEach [b] X.env = (false, eval b X.env) :: starEach [] X.env := by rfl) (hplain : (backTo pos (starEach [] X.env)).any (·.1) = false := by rfl) :
    DE X W (.Call (.Attribute a "index" pa) [b] [] pos) (eTupIx fa fb) := by
  have hbm := pe_bmT PySem.F.plainAttrs_tuple PySem.F.slot_tuple_index PySem.F.type_tuple_index mt_tup_indexI ha (pa_cons hb pa_nil hs) hbase hfew hline hs hplain
  refine peImp hbm fun σ H Q ⟨ρ, hρ, h⟩ => ⟨ρ, hρ, (Post.bind h).imp fun v H1 _ ⟨dx, _, s1, rx, h1⟩ => ?_⟩
  cases dx with
  | tuple ds =>
    obtain ⟨q, vs, rfl, hsP, hv⟩ := dp_tupP rx
    have hs := hsP.sqt
    refine ⟨⟨q, vs, rfl, hsP⟩, ρ, hρ.mono s1, (Post.bind h1).imp fun u H2 _ ⟨dy, _, s2, ry, h2⟩ => ?_⟩
    cases dy with
    | int k =>
      have h2 : Post X.K X.mg W σ H2 Q (Res.of ((toInts ds).bind fun ns => if k ∈ ns then some (.int ((ns.idxOf k : Nat) : Int)) else none)) := h2
      cases e1 : toInts ds with
      | none => rw [e1] at h2; exact h2.elim
      | some ns =>
        rw [e1, Option.bind_some] at h2
        by_cases hk : k ∈ ns
        · rw [if_pos hk] at h2
          have hs2 := Same.sqt s2 hs
          rw [dp_ints hv e1] at hs2
          obtain ⟨g1, g2⟩ := idxOf_first hk
          exact ⟨q, ns, k, ns.idxOf k, rfl, by rw [dp_int ry], hs2, g1, g2, h2 _ H2 (Same.refl _) (.int _)⟩
        · rw [if_neg hk] at h2
          exact h2.elim
    | _ => exact h2.elim
  | _ => exact h1.elim
/-- range(a, b, -1) -/
def downD (hi lo : Int) : List PyData := (List.range (hi - lo).toNat).map fun (i : Nat) => .int (hi - (i : Int))
theorem downD_length (lo hi : Int) : (downD hi lo).length = (hi - lo).toNat := by unfold downD; rw [List.length_map, List.length_range]
theorem downD_get {lo hi : Int} {i : Nat} (h : i < (hi - lo).toNat) : (downD hi lo)[i]? = some (.int (hi - (i : Int))) := by
  unfold downD
  rw [List.getElem?_map, List.getElem?_range h]
  rfl
def itR3 (f g h : Ex) : Itr' := fun ρ => (f ρ).bind fun x => (g ρ).bind fun y => (h ρ).bind fun z => (asI x).bind fun m => (asI y).bind fun n => (asI z).bind fun c => if c = -1 ∧ inB m ∧ inB n then .ok (downD m n) else .bad
theorem i_range3 (hm : X.mg "range" = none) (ha : DE X W a fa) (hb : DE X W b fb) (hc : DE X W c fc) (hg : Gl X "range" := by rfl) (hs : starEach [a, b, c] X.env = (false, eval a X.env) :: starEach [b, c] X.env := by rfl) (hs2 : starEach [b, c] X.env = (false, eval b X.env) :: starEach [c] X.env := by rfl) (hs3 : starEach [c] X.env = (false, eval c X.env) :: starEach [] X.env := by rfl)
    (hpl : (backTo pos (starEach [b, c] X.env)).any (·.1) = false := by rfl) : DI X W tg (.Call (.Name "range" p) [a, b, c] [] pos) (itR3 fa fb fc) := by
  refine piImp (pi_range3 hg hm (pa_cons ha (pa_cons hb (pa_cons hc pa_nil hs3) hs2) hs) hs hpl) fun σ H Q ⟨ρ, hρ, h⟩ => ⟨ρ, hρ, (Post.bindI h).imp fun v H1 _ ⟨d, _, s1, rx, h1⟩ => ⟨ρ, hρ.mono s1, (Post.bindI h1).imp fun u H2 _ ⟨e, _, s2, ry, h2⟩ => ⟨ρ, (hρ.mono s1).mono s2, (Post.bindI h2).imp fun w H3 _ ⟨f, _, s3, rz, h3⟩ => ?_⟩⟩⟩
  cases d with
  | int m =>
    cases e with
    | int n =>
      cases f with
      | int c =>
        have h4 : PostI X.K X.mg W σ H3 Q (if c = -1 ∧ inB m ∧ inB n then .ok (downD m n) else .bad) := h3
        by_cases hb : c = -1 ∧ inB m ∧ inB n
        · rw [if_pos hb] at h4
          obtain ⟨ec, hb⟩ := hb
          unfold inB at hb
          refine ⟨m, n, -1, (m - n).toNat, by rw [dp_int rx, dp_int ry, dp_int rz, ec], RgC.neg (by omega) (by omega) (by omega) (by omega), h4 _ H3 (Same.refl _) ?_⟩
          exact .of walk_rangeC (downD_length n m).symm (fun _ _ => trivial) fun i H1 x H' hi s ⟨e, y⟩ => ⟨_, downD_get hi, .inl ⟨e, by rw [y]; show Dp X.K H3 (V.int (m + (i : Int) * -1)) _; rw [show m + (i : Int) * -1 = m - (i : Int) by omega]; exact .int _⟩⟩
        · rw [if_neg hb] at h4
          exact h4.elim
      | _ => exact h3.elim
    | _ => exact h3.elim
  | _ => exact h3.elim
end

/-! ### x.append(y.pop(e)), x and y lists of the frame's own -/
def popAppS (i j : Nat) (e : Ex) : Sf := fstL i <| fstL j fun ρ => match e ρ with
  | .ok (.int z) => (match ownL j ρ with
    | .ok ds => (match ixN ds.length z with
      | some k => (match ds[k]? with
        | some d => (match ownL i ρ with
          | .ok es => if es.length < 16777216 ∧ inB z then .nx ((ρ.set j (some (.list (ds.eraseIdx k)))).set i (some (.list (es ++ [d])))) else .bad
          | _ => .bad)
        | none => .bad)
      | none => .bad)
    | _ => .bad)
  | .ok _ => .bad
  | .err c => .err c ρ
  | .bad => .bad
section
variable {X : Cx} {W : WX} {M Lb : List Nat} {e : Expr} {fe : Ex} {pos px py pa pb pc pd : Pos} {x y : Str}
theorem s_popApp (i j : Nat) (h : DE X W e fe) (hij : i ≠ j := by decide) (hi : X.N[i]? = some x := by rfl) (hv : Vis X.env.scope x := by first | exact Or.inl rfl | exact Or.inr (Or.inl rfl) | exact Or.inr (Or.inr rfl)) (hiM : i ∈ M := by decide) (hd : (x == ("__debug__" : Str)) = false := by decide) (hcd : (x == ("__classdict__" : Str)) = false := by decide)
    (hj : X.N[j]? = some y := by rfl) (hvj : Vis X.env.scope y := by first | exact Or.inl rfl | exact Or.inr (Or.inl rfl) | exact Or.inr (Or.inr rfl)) (hjM : j ∈ M := by decide) (hdj : (y == ("__debug__" : Str)) = false := by decide) (hcdj : (y == ("__classdict__" : Str)) = false := by decide)
    (hbase : attributeBase (.Name x px) "append" X.env (eval (.Name x px) X.env) = eval (.Name x px) X.env := by rfl)
    (hfew : ((backTo pc (starEach [.Call (.Attribute (.Name y py) "pop" pb) [e] [] pd] X.env)).all (fun x => !x.1) && (backToKw pc (keywordEach [] X.env)).all (fun x => x.1.isSome)
      && decide (([.Call (.Attribute (.Name y py) "pop" pb) [e] [] pd] : List Expr).length + ([] : List Keyword).length + (if ([] : List Keyword).isEmpty then 0 else 1) < 30)) = true := by rfl)
    (hline : (pa.endLine == pc.line) = true := by rfl) (hst : starEach [.Call (.Attribute (.Name y py) "pop" pb) [e] [] pd] X.env = (false, eval (.Call (.Attribute (.Name y py) "pop" pb) [e] [] pd) X.env) :: starEach [] X.env := by rfl) (hplain : (backTo pc (starEach [] X.env)).any (·.1) = false := by rfl)
    (hbase2 : attributeBase (.Name y py) "pop" X.env (eval (.Name y py) X.env) = eval (.Name y py) X.env := by rfl)
    (hfew2 : ((backTo pd (starEach [e] X.env)).all (fun x => !x.1) && (backToKw pd (keywordEach [] X.env)).all (fun x => x.1.isSome)
      && decide (([e] : List Expr).length + ([] : List Keyword).length + (if ([] : List Keyword).isEmpty then 0 else 1) < 30)) = true := by rfl)
    (hline2 : (pb.endLine == pd.line) = true := by rfl) (hst2 : starEach [e] X.env = (false, eval e X.env) :: starEach [] X.env := by rfl) (hplain2 : (backTo pd (starEach [] X.env)).any (·.1) = false := by rfl)
    (hs : swapsWith (.Call (.Attribute (.Name x px) "append" pa) [.Call (.Attribute (.Name y py) "pop" pb) [e] [] pd] [] pc) none pos.line X.env = pure false := by rfl) :
    DS X W M M Lb (.Expr (.Call (.Attribute (.Name x px) "append" pa) [.Call (.Attribute (.Name y py) "pop" pb) [e] [] pd] [] pc) pos) (popAppS i j fe) := by
  have hb : PE X (.Call (.Attribute (.Name x px) "append" pa) [.Call (.Attribute (.Name y py) "pop" pb) [e] [] pd] [] pc) (tBM X.K "list" rAppend (tVar i) (tCons (tBM X.K "list" rPopAt (tVar j) (tCons (tD X.K X.mg W fe) tNil)) tNil)) :=
    pe_bm PySem.F.plainAttrs_list PySem.F.slot_list_append PySem.F.type_list_append mt_append (pv i hi hv hd hcd) (pa_cons (pe_bm PySem.F.plainAttrs_list PySem.F.slot_list_pop PySem.F.type_list_pop mt_popAt (pv j hj hvj hdj hcdj) (pa_cons h pa_nil hst2) hbase2 hfew2 hline2 hst2 hplain2) pa_nil hst) hbase hfew hline hst hplain
  refine psImp (ps_expr hb hs) fun D σ H ⟨G, o, ρ, hm, R, q⟩ => ?_
  obtain ⟨a, ha⟩ := mem_id (by rw [hm]; exact hiM)
  obtain ⟨b, hb⟩ := mem_id (by rw [hm]; exact hjM)
  unfold popAppS at q
  obtain ⟨⟨ds0, vs0, g1, g2, g3, g4⟩, q⟩ := R.fstL ha q
  obtain ⟨⟨es0, us0, k1, k2, k3, k4⟩, q⟩ := R.fstL hb q
  have hab : a ≠ b := fun z => hij (by
    have q : (i, a) = (j, b) := SRep.freeze.nodup_snd R.nda ha hb z
    cases q
    rfl)
  refine ⟨.ref a, g2, .inl ⟨rfl, _, .inl (.inl g3)⟩, .ref b, k2, .inl ⟨rfl, _, .inl (.inl k3)⟩, ρ, R.full, ?_⟩
  cases e1 : fe ρ with
  | ok d =>
    rw [e1] at q
    intro v H' s r
    have R' := R.mono s
    cases d with
    | int z =>
      dsimp only at q
      cases e2 : ownL j ρ with
      | err c => rw [e2] at q; exact q.elim
      | bad => rw [e2] at q; exact q.elim
      | ok ds =>
        rw [e2] at q
        dsimp only at q
        obtain ⟨us, m1, m2, m3, m4⟩ := R'.ownAt hb e2
        cases e3 : ixN ds.length z with
        | none => rw [e3] at q; exact q.elim
        | some k =>
          rw [e3] at q
          dsimp only at q
          cases e4 : ds[k]? with
          | none => rw [e4] at q; exact q.elim
          | some d =>
            rw [e4] at q
            dsimp only at q
            cases e5 : ownL i ρ with
            | err c => rw [e5] at q; exact q.elim
            | bad => rw [e5] at q; exact q.elim
            | ok es =>
              rw [e5] at q
              dsimp only at q
              by_cases hl : es.length < 16777216 ∧ inB z
              · rw [if_pos hl] at q
                obtain ⟨hl, hz⟩ := hl
                unfold inB at hz
                obtain ⟨w, w1, w2⟩ := m4.get e4
                obtain ⟨s1, s2, s3, s4⟩ := ixN_seq e3
                obtain ⟨vs, n1, n2, n3, n4⟩ := R'.ownAt ha e5
                refine ⟨b, us, z, k, w, rfl, by rw [dp_int r], m3, by omega, by omega, by rw [m4.len]; exact s1, w1, ?_⟩
                have R2 := R'.put hb (DpAll.erase k m4)
                have n3' : upd H' b (.lst (us.eraseIdx k)) a = some (.lst vs) := by rw [upd_ne hab]; exact n3
                have ec : cut (AD o) (upd H' b (.lst (us.eraseIdx k))) = cut (AD o) H' := cut_upd_in (List.mem_map.mpr ⟨_, hb, rfl⟩)
                refine ⟨a, vs, w, rfl, rfl, n3', by rw [n4.len, sizeLine_eq]; exact hl, q σ _ o hm (R2.put ha (by rw [ec]; exact n4.app (.cons w2 .nil)))⟩
              · rw [if_neg hl] at q
                exact q.elim
    | _ => exact q.elim
  | err c =>
    rw [e1] at q
    obtain ⟨C, h1, h2⟩ := q
    exact ⟨C, h1, fun d H' s => h2 σ H' d (R.same.trans s) (R.full.mono s)⟩
  | bad => rw [e1] at q; exact q.elim
end
end L2.DL
set_option maxHeartbeats 2000000
namespace PySem.DLx
open PySem.SeqAt PyProof.Rows
open PySem.AutoSeq1 (wpAny_loadPart')
theorem list_extendW (l : Addr) (items : Array Value) (n : Nat) (b : Addr) (items2 : Array Value) (n2 : Nat) (dd : Option Addr) (sl : Array (Option Value)) (hc0 : ¬(!items.isEmpty && Builtin.List.listTooLong (items.size + items2.size)) = true) (hc1 : items.size ≤ sizeLine) (hs2 : items.size + items2.size ≤ sizeLine + 1) :
    Meets (Builtin.«list.extend» ⟨[.ref l, .ref b], []⟩) (fun _ R s => s.heap.get? l = some { cls := .type "list", dict := none, data := .seq items n, slots := #[] } ∧ s.heap.get? b = some { cls := .type "list", dict := dd, data := .seq items2 n2, slots := sl } ∧ R (.ok (.ret Value.none)) { s with heap := s.heap.update l (Obj.mapSeq fun x => x ++ items2), toks := s.toks }) :=
  .of_wp fun prog w A R s h => by
    obtain ⟨hp, g, d, tk, os⟩ := s; obtain ⟨hl, hb, h⟩ := h; have f1 := AutoSeq1.idx_int; have f2 := AutoSeq1.sub_tuple_tuple; have f3 := AutoSeq1.sub_list_list; have f4 := AutoSeq1.sub_tuple_list; have f5 := AutoSeq1.sub_list_tuple;
    have hz' : (items ++ items2).size ≤ sizeLine + 1 := by rw [Array.size_append]; exact hs2
    wp_walk using (wpAny_updateSeq hl rfl (hz := hc1) (_hz' := hz')), wpAny_loadPart' hl, wpAny_loadPart' hb; exact ⟨_, rfl, h⟩
end PySem.DLx
namespace L2.DL
open PySem PySem.Spec PyProof.Rows

/-! ### a ** b -/
def oPow : PyData → PyData → Option PyData
  | .int i, .int j => if 0 ≤ j ∧ j ≤ 1000000 ∧ i.natAbs < 2 ^ 64 then some (.int (i ^ j.toNat)) else none
  | _, _ => none
theorem o2_pow {K : PySem.W.Frag} : Op2 K (rI CPow fun i j => .int (i ^ j.toNat)) oPow := by
  intro x y dx dy d H Q rx ry e q
  cases dx with
  | int i =>
    cases dy with
    | int j =>
      unfold oPow at e
      dsimp only at e
      split at e
      · rename_i hc
        cases e
        exact ⟨i, j, dp_int rx, dp_int ry, hc, q _ H (Same.refl _) (.int _)⟩
      · cases e
    | _ => cases e
  | _ => cases e
theorem d_pow {X : Cx} {W : WX} {a b : Expr} {fa fb : Ex} {pos : Pos} (ha : DE X W a fa) (hb : DE X W b fb) : DE X W (.BinOp a .Pow b pos) (eOp oPow fa fb) := d_op op_pow o2_pow ha hb

/-! ### x.remove(k), x.extend(ys): x a list of the frame's own -/
def remS (i : Nat) (e : Ex) : Sf := fstL i fun ρ => match e ρ with
  | .ok (.int k) => (match ownL i ρ with
    | .ok ds => (match toInts ds with
      | some ns => if k ∈ ns then .nx (ρ.set i (some (.list ((ns.erase k).map .int)))) else .bad
      | none => .bad)
    | _ => .bad)
  | .ok _ => .bad
  | .err c => .err c ρ
  | .bad => .bad
def extS (M : List Nat) (i : Nat) (e : Ex) : Sf := fstL i fun ρ => match e ρ with
  | .ok (.list es) => (match ownL i ρ with
    | .ok ds => if ds.length + es.length ≤ 16777216 then .nx (ρ.set i (some (.list (ds ++ es)))) else .bad
    | _ => .bad)
  | .ok _ => .bad
  | .err c => .err c (wipeD ρ M)
  | .bad => .bad
def rExtQ (K : PySem.W.Frag) : V → List V → Hp → VK → Prop := fun x vs H Q => ∃ l b xs zs, x = .ref l ∧ vs = [.ref b] ∧ H l = some (.lst xs) ∧ SqL K H b zs ∧ xs.length + zs.length ≤ sizeLine ∧ Q .non (upd H l (.lst (xs ++ zs)))
theorem mt_extendQ {X : Cx} : MtM X "list.extend" (rExtQ X.K) := by
  intro pins s σ H x vs v us Q I rx rv h
  obtain ⟨l, b, xs, zs, rfl, rfl, hH, hB, hz, q⟩ := h
  cases rx
  obtain ⟨u, rfl, ru⟩ := rv.one
  cases ru
  obtain ⟨z, its, n, r, hl, e⟩ := I.lstM hH
  obtain ⟨its2, r2, pl2, _⟩ := I.list hB
  have hl2 := r2.length
  obtain ⟨⟨cls2, dd2, data2, sl2⟩, n2, ho2, hc2, _, hd2⟩ := pl2
  simp only at hc2 hd2
  subst hc2 hd2
  have hsz : its.toArray.size + its2.toArray.size ≤ sizeLine := by rw [List.size_toArray, List.size_toArray]; omega
  have hlong : ¬ (!its.toArray.isEmpty && Builtin.List.listTooLong (its.toArray.size + its2.toArray.size)) = true := by
    rw [notLongL hsz, Bool.and_false]
    exact Bool.false_ne_true
  refine call_meets F.slot_list_extend ⟨_, e, rfl⟩ F.entry_list_extend (F.args_list_extend_2 _ _)
    (PySem.DLx.list_extendW l its.toArray n b its2.toArray n2 dd2 sl2 hlong (by rw [List.size_toArray]; omega) (by omega)) ⟨e, ho2, ?_⟩
  refine ⟨.non, _, I.lset (its' := its ++ its2) hH e (by simp) (r.append r2) ?_, rfl, q⟩
  rw [List.length_append]
  omega
section
variable {X : Cx} {W : WX} {M M' M1 M2 Lb : List Nat} {e k : Expr} {fe fk : Ex} {pos px pa pc ps : Pos} {x : Str}
theorem s_rem (i : Nat) (h : DE X W e fe) (hi : X.N[i]? = some x := by rfl) (hv : Vis X.env.scope x := by first | exact Or.inl rfl | exact Or.inr (Or.inl rfl) | exact Or.inr (Or.inr rfl)) (hiM : i ∈ M := by decide) (hd : (x == ("__debug__" : Str)) = false := by decide) (hcd : (x == ("__classdict__" : Str)) = false := by decide)
    (hbase : attributeBase (.Name x px) "remove" X.env (eval (.Name x px) X.env) = eval (.Name x px) X.env := by rfl)
    (hfew : ((backTo pc (starEach [e] X.env)).all (fun x => !x.1) && (backToKw pc (keywordEach [] X.env)).all (fun x => x.1.isSome)
      && decide (([e] : List Expr).length + ([] : List Keyword).length + (if ([] : List Keyword).isEmpty then 0 else 1) < 30)) = true := by rfl)
    (hline : (pa.endLine == pc.line) = true := by rfl) (hst : starEach [e] X.env = (false, eval e X.env) :: starEach [] X.env := by rfl) (hplain : (backTo pc (starEach [] X.env)).any (·.1) = false := by rfl)
    (hs : swapsWith (.Call (.Attribute (.Name x px) "remove" pa) [e] [] pc) none pos.line X.env = pure false := by rfl) : DS X W M M Lb (.Expr (.Call (.Attribute (.Name x px) "remove" pa) [e] [] pc) pos) (remS i fe) := by
  have hb : PE X (.Call (.Attribute (.Name x px) "remove" pa) [e] [] pc) (tBM X.K "list" rRemI (tVar i) (tCons (tD X.K X.mg W fe) tNil)) := pe_bm PySem.F.plainAttrs_list PySem.F.slot_list_remove PySem.F.type_list_remove mt_remove (pv i hi hv hd hcd) (pa_cons h pa_nil hst) hbase hfew hline hst hplain
  refine psImp (ps_expr hb hs) fun D σ H ⟨G, o, ρ, hm, R, q⟩ => ?_
  obtain ⟨a, ha⟩ := mem_id (by rw [hm]; exact hiM)
  unfold remS at q
  obtain ⟨⟨ds0, vs0, g1, g2, g3, g4⟩, q⟩ := R.fstL ha q
  refine ⟨.ref a, g2, .inl ⟨rfl, _, .inl (.inl g3)⟩, ρ, R.full, ?_⟩
  cases e1 : fe ρ with
  | ok d =>
    rw [e1] at q
    intro v H' s r
    have R' := R.mono s
    cases d with
    | int k =>
      dsimp only at q
      cases e2 : ownL i ρ with
      | ok ds =>
        rw [e2] at q
        dsimp only at q
        obtain ⟨vs, k1, k2, k3, k4⟩ := R'.ownAt ha e2
        cases e3 : toInts ds with
        | none => rw [e3] at q; exact q.elim
        | some ns =>
          rw [e3] at q
          dsimp only at q
          by_cases hk : k ∈ ns
          · rw [if_pos hk] at q
            obtain ⟨j, j1, j2, j3, j4⟩ := first_at hk
            rw [dp_ints k4 e3] at k3
            refine ⟨a, ns, k, j, rfl, by rw [dp_int r], k3, j2, j3, ?_⟩
            rw [j4]
            exact q σ _ o hm (R'.put ha (of_ints _))
          · rw [if_neg hk] at q
            exact q.elim
      | err c => rw [e2] at q; exact q.elim
      | bad => rw [e2] at q; exact q.elim
    | _ => exact q.elim
  | err c =>
    rw [e1] at q
    obtain ⟨C, h1, h2⟩ := q
    exact ⟨C, h1, fun d H' s => h2 σ H' d (R.same.trans s) (R.full.mono s)⟩
  | bad => rw [e1] at q; exact q.elim
theorem s_ext (i : Nat) (h : SE X W M e fe) (hi : X.N[i]? = some x := by rfl) (hv : Vis X.env.scope x := by first | exact Or.inl rfl | exact Or.inr (Or.inl rfl) | exact Or.inr (Or.inr rfl)) (hiM : i ∈ M := by decide) (hd : (x == ("__debug__" : Str)) = false := by decide) (hcd : (x == ("__classdict__" : Str)) = false := by decide)
    (hbase : attributeBase (.Name x px) "extend" X.env (eval (.Name x px) X.env) = eval (.Name x px) X.env := by rfl)
    (hfew : ((backTo pc (starEach [e] X.env)).all (fun x => !x.1) && (backToKw pc (keywordEach [] X.env)).all (fun x => x.1.isSome)
      && decide (([e] : List Expr).length + ([] : List Keyword).length + (if ([] : List Keyword).isEmpty then 0 else 1) < 30)) = true := by rfl)
    (hline : (pa.endLine == pc.line) = true := by rfl) (hst : starEach [e] X.env = (false, eval e X.env) :: starEach [] X.env := by rfl) (hplain : (backTo pc (starEach [] X.env)).any (·.1) = false := by rfl)
    (hs : swapsWith (.Call (.Attribute (.Name x px) "extend" pa) [e] [] pc) none pos.line X.env = pure false := by rfl) : DS X W M M Lb (.Expr (.Call (.Attribute (.Name x px) "extend" pa) [e] [] pc) pos) (extS M i fe) := by
  have hb : PE X (.Call (.Attribute (.Name x px) "extend" pa) [e] [] pc) (tBM X.K "list" (rExtQ X.K) (tVar i) (tCons (tSE X.K X.mg W M fe) tNil)) := pe_bm PySem.F.plainAttrs_list PySem.F.slot_list_extend PySem.F.type_list_extend mt_extendQ (pv i hi hv hd hcd) (pa_cons h pa_nil hst) hbase hfew hline hst hplain
  refine psImp (ps_expr hb hs) fun D σ H ⟨G, o, ρ, hm, R, q⟩ => ?_
  obtain ⟨a, ha⟩ := mem_id (by rw [hm]; exact hiM)
  unfold extS at q
  obtain ⟨⟨ds0, vs0, g1, g2, g3, g4⟩, q⟩ := R.fstL ha q
  refine ⟨.ref a, g2, .inl ⟨rfl, _, .inl (.inl g3)⟩, G, o, ρ, hm, R, ?_⟩
  cases e1 : fe ρ with
  | ok d =>
    rw [e1] at q
    intro v H' R' r
    cases d with
    | list es =>
      dsimp only at q
      cases e2 : ownL i ρ with
      | ok ds =>
        rw [e2] at q
        dsimp only at q
        obtain ⟨vs, k1, k2, k3, k4⟩ := R'.ownAt ha e2
        by_cases hl : ds.length + es.length ≤ 16777216
        · rw [if_pos hl] at q
          obtain ⟨b, us, rfl, hs, hv⟩ := dp_lst r
          refine ⟨a, b, vs, us, rfl, rfl, k3, cutSame.seq hs, by rw [k4.len, hv.len, sizeLine_eq]; exact hl, q σ _ o hm (R'.put ha (k4.app hv))⟩
        · rw [if_neg hl] at q
          exact q.elim
      | err c => rw [e2] at q; exact q.elim
      | bad => rw [e2] at q; exact q.elim
    | _ => exact q.elim
  | err c =>
    rw [e1] at q
    obtain ⟨C, h1, h2⟩ := q
    exact ⟨C, h1, fun H' d s r => h2 σ H' d s (by rw [← hm]; exact r)⟩
  | bad => rw [e1] at q; exact q.elim
end
end L2.DL
set_option maxHeartbeats 2000000
namespace L2.DL
open PySem PySem.Spec PyProof.Rows
/-! ### reckoning with mirrors: what simp opens -/
@[simp] theorem eVar_zero (d : PyData) (r : Env) : eVar 0 (some d :: r) = .ok d := rfl
@[simp] theorem eVar_zeroN (r : Env) : eVar 0 (none :: r) = .bad := rfl
@[simp] theorem eVar_succ (i : Nat) (x : Option PyData) (r : Env) : eVar (i + 1) (x :: r) = eVar i r := by simp [eVar]
@[simp] theorem eC_ap (d : PyData) (ρ : Env) : eC d ρ = .ok d := rfl
@[simp] theorem eOp_ap (op : PyData → PyData → Option PyData) (f g : Ex) (ρ : Env) : eOp op f g ρ = (f ρ).bind fun x => (g ρ).bind fun y => Res.of (op x y) := rfl
@[simp] theorem eUn_ap (op : PyData → Option PyData) (f : Ex) (ρ : Env) : eUn op f ρ = (f ρ).bind fun x => Res.of (op x) := rfl
@[simp] theorem eB_ap (f : Ex) (ρ : Env) : eB f ρ = (f ρ).bind asB := rfl
@[simp] theorem bE_ap (f : Te) (ρ : Env) : bE f ρ = (f ρ).bind fun b => .ok (.bool b) := rfl
@[simp] theorem teAnd_ap (f g : Te) (ρ : Env) : teAnd f g ρ = (f ρ).bind fun c => if c = true then g ρ else .ok false := rfl
@[simp] theorem teOr_ap (f g : Te) (ρ : Env) : teOr f g ρ = (f ρ).bind fun c => if c = true then .ok true else g ρ := rfl
@[simp] theorem teNot_ap (f : Te) (ρ : Env) : teNot f ρ = (f ρ).bind fun c => .ok (!c) := rfl
@[simp] theorem teYes_ap (ρ : Env) : teYes ρ = .ok true := rfl
@[simp] theorem eIf_ap (c : Te) (a b : Ex) (ρ : Env) : eIf c a b ρ = (c ρ).bind fun k => if k = true then a ρ else b ρ := rfl
@[simp] theorem eChain_ap (op op' : PyData → PyData → Option PyData) (fa fb fc : Ex) (ρ : Env) : eChain op op' fa fb fc ρ = (fa ρ).bind fun x => (fb ρ).bind fun y => (Res.of (op x y)).bind fun k => (asB k).bind fun k => if k = true then (fc ρ).bind fun z => (Res.of (op' y z)).bind asB else .ok false := rfl
@[simp] theorem eAnd_ap (f g : Ex) (ρ : Env) : eAnd f g ρ = (f ρ).bind fun x => (asB x).bind fun c => if c = true then g ρ else .ok (.bool false) := rfl
@[simp] theorem eOr_ap (f g : Ex) (ρ : Env) : eOr f g ρ = (f ρ).bind fun x => (asB x).bind fun c => if c = true then .ok (.bool true) else g ρ := rfl
@[simp] theorem eNot_ap (f : Ex) (ρ : Env) : eNot f ρ = (f ρ).bind fun x => (asB x).bind fun c => .ok (.bool (!c)) := rfl
@[simp] theorem aNil_ap (ρ : Env) : aNil ρ = .ok [] := rfl
@[simp] theorem aCons_ap (f : Ex) (g : Ar) (ρ : Env) : aCons f g ρ = (f ρ).bind fun x => (g ρ).bind fun xs => .ok (x :: xs) := rfl
@[simp] theorem eTup_ap (f : Ar) (ρ : Env) : eTup f ρ = (f ρ).bind fun xs => if xs.length ≤ 16777216 then .ok (.tuple xs) else .bad := rfl
@[simp] theorem eLst_ap (f : Ar) (ρ : Env) : eLst f ρ = (f ρ).bind fun xs => if xs.length ≤ 16777216 then .ok (.list xs) else .bad := rfl
@[simp] theorem nLst_ap (f : Ar) (ρ : Env) : nLst f ρ = (f ρ).bind fun xs => if xs.length ≤ 16777216 then .ok xs else .bad := rfl
@[simp] theorem eCall_ap (fn : List PyData → Res PyData) (g : Ar) (ρ : Env) : eCall fn g ρ = (g ρ).bind fn := rfl
@[simp] theorem eCall1_ap (op : PyData → Option PyData) (f : Ex) (ρ : Env) : eCall1 op f ρ = (f ρ).bind fun x => Res.of (op x) := rfl
@[simp] theorem eCall2_ap (op : PyData → PyData → Option PyData) (f g : Ex) (ρ : Env) : eCall2 op f g ρ = (f ρ).bind fun x => (g ρ).bind fun y => Res.of (op x y) := rfl
@[simp] theorem ptNo_ap (ρ : Env) : ptNo ρ = .ok none := rfl
@[simp] theorem asI_int (i : Int) : asI (.int i) = .ok i := rfl
@[simp] theorem asL_list (xs : List PyData) : asL (.list xs) = .ok xs := rfl
@[simp] theorem ptSome_ap (f : Ex) (ρ : Env) : ptSome f ρ = (f ρ).bind fun x => (asI x).bind fun i => .ok (some i) := rfl
@[simp] theorem eSlice_ap (f : Ex) (lo hi : Pt) (ρ : Env) : eSlice f lo hi ρ = (f ρ).bind fun x => (lo ρ).bind fun l => (hi ρ).bind fun h => Res.of (oSlice x l h) := rfl
@[simp] theorem oSlice_list (xs : List PyData) (l h : Option Int) : oSlice (.list xs) l h = some (.list (cutD xs l h)) := rfl
@[simp] theorem oSlice_tuple (xs : List PyData) (l h : Option Int) : oSlice (.tuple xs) l h = some (.tuple (cutD xs l h)) := rfl
@[simp] theorem itSq_ap (f : Ex) (ρ : Env) : itSq f ρ = (f ρ).bind items := rfl
@[simp] theorem itEnum_ap (f : Ex) (ρ : Env) : itEnum f ρ = (f ρ).bind fun x => (asL x).bind fun ds => .ok (enumFrom 0 ds) := rfl
@[simp] theorem itZip_ap (f g : Ex) (ρ : Env) : itZip f g ρ = (f ρ).bind fun x => (g ρ).bind fun y => (asL x).bind fun xs => (asL y).bind fun ys => .ok (zipD xs ys) := rfl
@[simp] theorem itR1_ap (f : Ex) (ρ : Env) : itR1 f ρ = (f ρ).bind fun x => (asI x).bind fun n => if inB n then .ok (rangeD 0 n) else .bad := rfl
@[simp] theorem itR2_ap (f g : Ex) (ρ : Env) : itR2 f g ρ = (f ρ).bind fun x => (g ρ).bind fun y => (asI x).bind fun m => (asI y).bind fun n => if inB m ∧ inB n then .ok (rangeD m n) else .bad := rfl
@[simp] theorem itR3_ap (f g h : Ex) (ρ : Env) : itR3 f g h ρ = (f ρ).bind fun x => (g ρ).bind fun y => (h ρ).bind fun z => (asI x).bind fun m => (asI y).bind fun n => (asI z).bind fun c => if c = -1 ∧ inB m ∧ inB n then .ok (downD m n) else .bad := rfl
@[simp] theorem eLstR1_ap (f : Ex) (ρ : Env) : eLstR1 f ρ = (f ρ).bind fun x => (asI x).bind fun n => if inB n then .ok (.list (rangeD 0 n)) else .bad := rfl
@[simp] theorem nR1_ap (f : Ex) (ρ : Env) : nR1 f ρ = (f ρ).bind fun x => (asI x).bind fun n => if inB n then .ok (rangeD 0 n) else .bad := rfl
/-- a tuple, or nothing we tell of -/
def tupO (x : PyData) : Res PyData := match x with
  | .tuple xs => .ok (.tuple xs)
  | _ => .bad
@[simp] theorem tupO_tuple (xs : List PyData) : tupO (.tuple xs) = .ok (.tuple xs) := rfl
@[simp] theorem eTupIx_ap (f g : Ex) (ρ : Env) : eTupIx f g ρ = (f ρ).bind fun x => (tupO x).bind fun x => (g ρ).bind fun y => Res.of (oIndexT x y) := by
  show (f ρ).bind _ = _
  congr 1
  funext x
  cases x <;> rfl
@[simp] theorem eComp_ap (it : Itr') (t : Tgt) (c : Te) (e : Ex) (ρ : Env) : eComp it t c e ρ = (eCompL it t c e ρ).bind fun xs => .ok (.list xs) := rfl
@[simp] theorem eCompL_ap (it : Itr') (t : Tgt) (c : Te) (e : Ex) (ρ : Env) : eCompL it t c e ρ = (it ρ).bind fun ds => if ds.length < 16777216 then compD t c e (wipeD ρ t.slots) ds else .bad := rfl
@[simp] theorem slots_one (i : Nat) : (Tgt.one i).slots = [i] := rfl
@[simp] theorem slots_tup (is : List Nat) : (Tgt.tup is).slots = is := rfl
@[simp] theorem wipeD_nil (ρ : Env) : wipeD ρ [] = ρ := rfl
@[simp] theorem wipeD_cons (ρ : Env) (v : Nat) (vs : List Nat) : wipeD ρ (v :: vs) = (wipeD ρ vs).set v none := rfl
@[simp] theorem bindT_one (i : Nat) (d : PyData) (ρ : Env) : bindT (.one i) d ρ = .ok (ρ.set i (some d)) := rfl
@[simp] theorem bindT_tup (is : List Nat) (ds : List PyData) (ρ : Env) : bindT (.tup is) (.tuple ds) ρ = if ds.length = is.length then .ok (setAll is ds ρ) else .bad := rfl
@[simp] theorem setAll_cons (i : Nat) (is : List Nat) (d : PyData) (ds : List PyData) (ρ : Env) : setAll (i :: is) (d :: ds) ρ = setAll is ds (ρ.set i (some d)) := rfl
@[simp] theorem setAll_nil (ds : List PyData) (ρ : Env) : setAll [] ds ρ = ρ := by cases ds <;> rfl
/-! operators -/
@[simp] theorem oAdd_int (i j : Int) : oAdd (.int i) (.int j) = some (.int (i + j)) := rfl
@[simp] theorem oSub_int (i j : Int) : oSub (.int i) (.int j) = some (.int (i - j)) := rfl
@[simp] theorem oMul_int (i j : Int) : oMul (.int i) (.int j) = if (-(2 ^ 64) < i ∧ i < 2 ^ 64) ∨ (-(2 ^ 64) < j ∧ j < 2 ^ 64) then some (.int (i * j)) else none := rfl
@[simp] theorem oMod_int (i j : Int) : oMod (.int i) (.int j) = if 0 < j then some (.int (i % j)) else none := rfl
@[simp] theorem oDiv_int (i j : Int) : oDiv (.int i) (.int j) = if 0 < j ∧ j < 1073741824 then some (.int (i / j)) else none := rfl
@[simp] theorem oLt_int (i j : Int) : oLt (.int i) (.int j) = some (.bool (decide (i < j))) := rfl
@[simp] theorem oLe_int (i j : Int) : oLe (.int i) (.int j) = some (.bool (decide (i ≤ j))) := rfl
@[simp] theorem oGt_int (i j : Int) : oGt (.int i) (.int j) = some (.bool (decide (j < i))) := rfl
@[simp] theorem oGe_int (i j : Int) : oGe (.int i) (.int j) = some (.bool (decide (j ≤ i))) := rfl
@[simp] theorem oNeg_int (i : Int) : oNeg (.int i) = some (.int (-i)) := rfl
@[simp] theorem oMin_int (i j : Int) : oMin (.int i) (.int j) = some (.int (if j < i then j else i)) := rfl
@[simp] theorem oMax_int (i j : Int) : oMax (.int i) (.int j) = some (.int (if j > i then j else i)) := rfl
@[simp] theorem oLen_list (xs : List PyData) : oLen (.list xs) = some (.int (xs.length : Int)) := rfl
@[simp] theorem oLen_tuple (xs : List PyData) : oLen (.tuple xs) = some (.int (xs.length : Int)) := rfl
@[simp] theorem oInt_int (i : Int) : oInt (.int i) = some (.int i) := rfl
@[simp] theorem oInt_bool (b : Bool) : oInt (.bool b) = some (.int (if b then 1 else 0)) := rfl
@[simp] theorem oTuple_list (xs : List PyData) : oTuple (.list xs) = some (.tuple xs) := rfl
@[simp] theorem oTuple_tuple (xs : List PyData) : oTuple (.tuple xs) = some (.tuple xs) := rfl
@[simp] theorem oList_list (xs : List PyData) : oList (.list xs) = some (.list xs) := rfl
@[simp] theorem oList_tuple (xs : List PyData) : oList (.tuple xs) = some (.list xs) := rfl
@[simp] theorem oIx_list (xs : List PyData) (i : Int) : oIx (.list xs) (.int i) = atI xs i := rfl
@[simp] theorem oIx_tuple (xs : List PyData) (i : Int) : oIx (.tuple xs) (.int i) = atI xs i := rfl
@[simp] theorem isaInt_int (i : Int) : isaInt (.int i) = some (.bool true) := rfl
@[simp] theorem isaInt_bool (b : Bool) : isaInt (.bool b) = some (.bool true) := rfl
@[simp] theorem isaInt_none : isaInt .none = some (.bool false) := rfl
@[simp] theorem isaInt_str (b : Str) : isaInt (.str b) = some (.bool false) := rfl
@[simp] theorem isaInt_list (b : List PyData) : isaInt (.list b) = some (.bool false) := rfl
@[simp] theorem isaInt_tuple (b : List PyData) : isaInt (.tuple b) = some (.bool false) := rfl
@[simp] theorem isaBool_int (i : Int) : isaBool (.int i) = some (.bool false) := rfl
@[simp] theorem isaBool_bool (b : Bool) : isaBool (.bool b) = some (.bool true) := rfl
@[simp] theorem isaTuple_tuple (b : List PyData) : isaTuple (.tuple b) = some (.bool true) := rfl
@[simp] theorem isaTuple_list (b : List PyData) : isaTuple (.list b) = some (.bool false) := rfl
@[simp] theorem isaTuple_int (b : Int) : isaTuple (.int b) = some (.bool false) := rfl
@[simp] theorem isaTuple_bool (b : Bool) : isaTuple (.bool b) = some (.bool false) := rfl
@[simp] theorem isaTuple_str (b : Str) : isaTuple (.str b) = some (.bool false) := rfl
@[simp] theorem isaTuple_none : isaTuple .none = some (.bool false) := rfl
@[simp] theorem isaList_list (b : List PyData) : isaList (.list b) = some (.bool true) := rfl
@[simp] theorem isaList_tuple (b : List PyData) : isaList (.tuple b) = some (.bool false) := rfl
@[simp] theorem isaList_int (b : Int) : isaList (.int b) = some (.bool false) := rfl
@[simp] theorem isaList_none : isaList .none = some (.bool false) := rfl
@[simp] theorem isaList_str (b : Str) : isaList (.str b) = some (.bool false) := rfl
@[simp] theorem isN_none : isN .none = true := rfl
@[simp] theorem isN_int (i : Int) : isN (.int i) = false := rfl
@[simp] theorem isN_bool (i : Bool) : isN (.bool i) = false := rfl
@[simp] theorem isN_str (i : Str) : isN (.str i) = false := rfl
@[simp] theorem isN_list (i : List PyData) : isN (.list i) = false := rfl
@[simp] theorem isN_tuple (i : List PyData) : isN (.tuple i) = false := rfl
@[simp] theorem oIs_non (x : PyData) : oIs x .none = some (.bool (isN x)) := rfl
@[simp] theorem oIsNot_non (x : PyData) : oIsNot x .none = some (.bool (!isN x)) := rfl
@[simp] theorem oCatT_tuple (xs ys : List PyData) : oCatT (.tuple xs) (.tuple ys) = if xs.length + ys.length ≤ 16777216 then some (.tuple (xs ++ ys)) else none := rfl
@[simp] theorem oCatL_list (xs ys : List PyData) : oCatL (.list xs) (.list ys) = if xs.length + ys.length ≤ 16777216 then some (.list (xs ++ ys)) else none := rfl
/-! statements -/
@[simp] theorem nxS_ap (ρ : Env) : nxS ρ = .nx ρ := rfl
/-- what comes behind a statement's end -/
def SRes.andThen (r : SRes) (g : Sf) : SRes := match r with
  | .nx ρ => g ρ
  | r => r
@[simp] theorem andThen_nx (ρ : Env) (g : Sf) : (SRes.nx ρ).andThen g = g ρ := rfl
@[simp] theorem andThen_ret (d : PyData) (g : Sf) : (SRes.ret d).andThen g = .ret d := rfl
@[simp] theorem andThen_err (c : Str) (ρ : Env) (g : Sf) : (SRes.err c ρ).andThen g = .err c ρ := rfl
@[simp] theorem andThen_brk (ρ : Env) (g : Sf) : (SRes.brk ρ).andThen g = .brk ρ := rfl
@[simp] theorem andThen_cnt (ρ : Env) (g : Sf) : (SRes.cnt ρ).andThen g = .cnt ρ := rfl
@[simp] theorem andThen_bad (g : Sf) : (SRes.bad).andThen g = .bad := rfl
@[simp] theorem seqS_ap (f g : Sf) (ρ : Env) : seqS f g ρ = (f ρ).andThen g := rfl
/-- a value for a statement -/
def Res.toS {α : Type} (r : Res α) (ρe : Env) (k : α → SRes) : SRes := match r with
  | .ok a => k a
  | .err c => .err c ρe
  | .bad => .bad
@[simp] theorem toS_ok {α : Type} (a : α) (ρe : Env) (k : α → SRes) : (Res.ok a).toS ρe k = k a := rfl
@[simp] theorem toS_err {α : Type} (c : Str) (ρe : Env) (k : α → SRes) : (Res.err c : Res α).toS ρe k = .err c ρe := rfl
@[simp] theorem toS_bad {α : Type} (ρe : Env) (k : α → SRes) : (Res.bad : Res α).toS ρe k = .bad := rfl
@[simp] theorem ifS_ap (c : Te) (a b : Sf) (ρ : Env) : ifS c a b ρ = (c ρ).toS ρ fun k => if k = true then a ρ else b ρ := by
  unfold ifS Res.toS; cases c ρ <;> rfl
@[simp] theorem retS_ap (e : Ex) (ρ : Env) : retS e ρ = (e ρ).toS ρ fun d => .ret d := by
  unfold retS Res.toS; cases e ρ <;> rfl
@[simp] theorem exprS_ap (e : Ex) (ρ : Env) : exprS e ρ = (e ρ).toS ρ fun _ => .nx ρ := by
  unfold exprS Res.toS; cases e ρ <;> rfl
@[simp] theorem raiseS_ap (c : Str) (ρ : Env) : raiseS c ρ = .err c ρ := rfl
@[simp] theorem setS_ap (M : List Nat) (i : Nat) (e : Ex) (ρ : Env) : setS M i e ρ = (e ρ).toS (wipeD ρ M) fun d => .nx (ρ.set i (some d)) := by
  unfold setS Res.toS; cases e ρ <;> rfl
@[simp] theorem newS_ap (M : List Nat) (i : Nat) (e : Env → Res (List PyData)) (ρ : Env) : newS M i e ρ = (e (wipeD ρ M)).toS (wipeD ρ M) fun ds => if i < ρ.length then .nx (ρ.set i (some (.list ds))) else .bad := by
  unfold newS Res.toS; cases e (wipeD ρ M) <;> rfl
def Res.toS' {α : Type} (r : Res α) (k : α → SRes) : SRes := match r with
  | .ok a => k a
  | _ => .bad
@[simp] theorem toS'_ok {α : Type} (a : α) (k : α → SRes) : (Res.ok a).toS' k = k a := rfl
@[simp] theorem toS'_err {α : Type} (c : Str) (k : α → SRes) : (Res.err c : Res α).toS' k = .bad := rfl
@[simp] theorem toS'_bad {α : Type} (k : α → SRes) : (Res.bad : Res α).toS' k = .bad := rfl
@[simp] theorem asgS_ap (M : List Nat) (t : Tgt) (e : Ex) (ρ : Env) : asgS M t e ρ = (e ρ).toS (wipeD ρ M) fun d => (bindT t d ρ).toS' fun ρ' => .nx ρ' := by
  unfold asgS Res.toS
  cases e ρ with
  | ok d => unfold Res.toS'; dsimp only; cases bindT t d ρ <;> rfl
  | _ => rfl
theorem fstL_ap (i : Nat) (f : Sf) (ρ : Env) : fstL i f ρ = (ownL i ρ).toS' fun _ => f ρ := by
  unfold fstL Res.toS'; cases ownL i ρ <;> rfl
@[simp] theorem ownL_zero (ds : List PyData) (r : Env) : ownL 0 (some (.list ds) :: r) = .ok ds := rfl
@[simp] theorem ownL_succ (i : Nat) (x : Option PyData) (r : Env) : ownL (i + 1) (x :: r) = ownL i r := by simp [ownL]
@[simp] theorem appS_ap (M : List Nat) (i : Nat) (e : Ex) (ρ : Env) : appS M i e ρ = (ownL i ρ).toS' fun _ => (e ρ).toS (wipeD ρ M) fun d => (ownL i ρ).toS' fun ds => if ds.length < 16777216 then .nx (ρ.set i (some (.list (ds ++ [d])))) else .bad := by
  unfold appS
  rw [fstL_ap]
  refine congrArg _ (funext fun _ => ?_)
  unfold Res.toS
  cases e ρ with
  | ok d => unfold Res.toS'; dsimp only; cases ownL i ρ <;> rfl
  | _ => rfl
@[simp] theorem putS_ap (M : List Nat) (i : Nat) (k e : Ex) (ρ : Env) : putS M i k e ρ = (ownL i ρ).toS' fun _ => (e ρ).toS (wipeD ρ M) fun d => (k ρ).toS ρ fun z => (asI z).toS' fun z => (ownL i ρ).toS' fun ds => match ixN ds.length z with
    | some j => .nx (ρ.set i (some (.list (ds.set j d))))
    | none => .bad := by
  unfold putS
  rw [fstL_ap]
  refine congrArg _ (funext fun _ => ?_)
  unfold Res.toS
  cases e ρ with
  | ok d =>
    dsimp only
    cases k ρ with
    | ok z =>
      cases z with
      | int z =>
        simp only [asI_int, toS'_ok]
        cases ownL i ρ <;> rfl
      | _ => rfl
    | _ => rfl
  | _ => rfl
@[simp] theorem popAppS_ap (i j : Nat) (e : Ex) (ρ : Env) : popAppS i j e ρ = (ownL i ρ).toS' fun _ => (ownL j ρ).toS' fun _ => (e ρ).toS ρ fun z => (asI z).toS' fun z => (ownL j ρ).toS' fun ds => match ixN ds.length z with
    | some k => (match ds[k]? with
      | some d => (ownL i ρ).toS' fun es => if es.length < 16777216 ∧ inB z then .nx ((ρ.set j (some (.list (ds.eraseIdx k)))).set i (some (.list (es ++ [d])))) else .bad
      | none => .bad)
    | none => .bad := by
  unfold popAppS
  rw [fstL_ap]
  refine congrArg _ (funext fun _ => ?_)
  rw [fstL_ap]
  refine congrArg _ (funext fun _ => ?_)
  unfold Res.toS
  cases e ρ with
  | ok z =>
    cases z with
    | int z =>
      simp only [asI_int, toS'_ok]
      cases ownL j ρ with
      | ok ds =>
        simp only [toS'_ok]
        cases ixN ds.length z with
        | some k =>
          dsimp only
          cases ds[k]? with
          | some d =>
            dsimp only
            cases ownL i ρ <;> rfl
          | none => rfl
        | none => rfl
      | _ => rfl
    | _ => rfl
  | _ => rfl
@[simp] theorem remS_ap (i : Nat) (e : Ex) (ρ : Env) : remS i e ρ = (ownL i ρ).toS' fun _ => (e ρ).toS ρ fun k => (asI k).toS' fun k => (ownL i ρ).toS' fun ds => (Res.of (toInts ds)).toS' fun ns => if k ∈ ns then .nx (ρ.set i (some (.list ((ns.erase k).map .int)))) else .bad := by
  unfold remS
  rw [fstL_ap]
  refine congrArg _ (funext fun _ => ?_)
  unfold Res.toS
  cases e ρ with
  | ok z =>
    cases z with
    | int z =>
      simp only [asI_int, toS'_ok]
      cases ownL i ρ with
      | ok ds =>
        simp only [toS'_ok]
        cases toInts ds <;> rfl
      | _ => rfl
    | _ => rfl
  | _ => rfl
@[simp] theorem extS_ap (M : List Nat) (i : Nat) (e : Ex) (ρ : Env) : extS M i e ρ = (ownL i ρ).toS' fun _ => (e ρ).toS (wipeD ρ M) fun d => (asL d).toS' fun es => (ownL i ρ).toS' fun ds => if ds.length + es.length ≤ 16777216 then .nx (ρ.set i (some (.list (ds ++ es)))) else .bad := by
  unfold extS
  rw [fstL_ap]
  refine congrArg _ (funext fun _ => ?_)
  unfold Res.toS
  cases e ρ with
  | ok z =>
    cases z with
    | list z =>
      simp only [asL_list, toS'_ok]
      cases ownL i ρ <;> rfl
    | _ => rfl
  | _ => rfl
@[simp] theorem oPow_int (i j : Int) : oPow (.int i) (.int j) = if 0 ≤ j ∧ j ≤ 1000000 ∧ i.natAbs < 2 ^ 64 then some (.int (i ^ j.toNat)) else none := rfl
@[simp] theorem forS_ap (M : List Nat) (it : Itr') (t : Tgt) (fb : Sf) (ρ : Env) : forS M it t fb ρ = (it (wipeD ρ M)).toS (wipeD ρ M) fun ds => loopS t fb ds ρ := by
  unfold forS Res.toS; cases it (wipeD ρ M) <;> rfl
/-- what a def hands back -/
def SRes.toR (r : SRes) : Res PyData := match r with
  | .nx _ => .ok .none
  | .ret d => .ok d
  | .err c _ => .err c
  | _ => .bad
@[simp] theorem toR_nx (ρ : Env) : (SRes.nx ρ).toR = .ok .none := rfl
@[simp] theorem toR_ret (d : PyData) : (SRes.ret d).toR = .ok d := rfl
@[simp] theorem toR_err (c : Str) (ρ : Env) : (SRes.err c ρ).toR = .err c := rfl
@[simp] theorem toR_bad : (SRes.bad).toR = .bad := rfl
theorem runD_ap (n : Nat) (s : Sf) (ds : List PyData) : runD n s ds = (s (startD n ds)).toR := rfl
@[simp] theorem startD_ap (n : Nat) (ds : List PyData) : startD n ds = ds.map some ++ List.replicate (n - ds.length) none := rfl
theorem ite_toR (c : Prop) [Decidable c] (a b : SRes) : (if c then a else b).toR = if c then a.toR else b.toR := by split <;> rfl
theorem ite_andThen (c : Prop) [Decidable c] (a b : SRes) (g : Sf) : (if c then a else b).andThen g = if c then a.andThen g else b.andThen g := by split <;> rfl
theorem ite_bind {α β : Type} (c : Prop) [Decidable c] (a b : Res α) (f : α → Res β) : (if c then a else b).bind f = if c then a.bind f else b.bind f := by split <;> rfl
theorem ite_toS {α : Type} (c : Prop) [Decidable c] (a b : Res α) (ρ : Env) (f : α → SRes) : (if c then a else b).toS ρ f = if c then a.toS ρ f else b.toS ρ f := by split <;> rfl

/-! ### comprehensions and loops over encoded lists -/
theorem compD_enc {α : Type} {t : Tgt} {c : Te} {e : Ex} {ρ : Env} (enc : α → PyData) (p : α → Bool) (f : α → PyData) : ∀ (xs : List α), (∀ a ∈ xs, ∃ ρ1, bindT t (enc a) ρ = .ok ρ1 ∧ c ρ1 = .ok (p a) ∧ (p a = true → e ρ1 = .ok (f a))) →
    compD t c e ρ (xs.map enc) = .ok ((xs.filter p).map f)
  | [], _ => rfl
  | a :: xs, h => by
    obtain ⟨ρ1, h1, h2, h3⟩ := h a List.mem_cons_self
    have ih := compD_enc enc p f xs fun b hb => h b (List.mem_cons_of_mem _ hb)
    rw [List.map_cons]
    unfold compD
    rw [h1, Res.bind_ok, h2, noErr_ok, Res.bind_ok]
    cases hp : p a with
    | true => rw [if_pos rfl, h3 hp, noErr_ok, Res.bind_ok, ih, Res.bind_ok, List.filter_cons_of_pos hp, List.map_cons]
    | false => rw [if_neg Bool.false_ne_true, ih, List.filter_cons_of_neg (by rw [hp]; exact Bool.false_ne_true)]
/-- without a test -/
theorem compD_map {α : Type} {t : Tgt} {e : Ex} {ρ : Env} (enc : α → PyData) (f : α → PyData) (xs : List α) (h : ∀ a ∈ xs, ∃ ρ1, bindT t (enc a) ρ = .ok ρ1 ∧ e ρ1 = .ok (f a)) :
    compD t teYes e ρ (xs.map enc) = .ok (xs.map f) := by
  have z := compD_enc (t := t) (c := teYes) (e := e) (ρ := ρ) enc (fun _ => true) f xs fun a ha => by
    obtain ⟨ρ1, h1, h2⟩ := h a ha
    exact ⟨ρ1, h1, rfl, fun _ => h2⟩
  rw [z, List.filter_eq_self.mpr fun _ _ => rfl]
/-- a loop that goes through: its state by a fold -/
theorem loopS_fold {α β : Type} {t : Tgt} {fb : Sf} (enc : α → PyData) (st : β → Env) (step : β → α → β) : ∀ (xs : List α) (b : β), (∀ b a, a ∈ xs → ∃ ρ1, bindT t (enc a) (st b) = .ok ρ1 ∧ fb ρ1 = .nx (st (step b a))) →
    loopS t fb (xs.map enc) (st b) = .nx (st (xs.foldl step b))
  | [], _, _ => rfl
  | a :: xs, b, h => by
    obtain ⟨ρ1, h1, h2⟩ := h b a List.mem_cons_self
    rw [List.map_cons]
    unfold loopS
    rw [h1]
    dsimp only
    rw [h2]
    exact loopS_fold enc st step xs (step b a) fun b a ha => h b a (List.mem_cons_of_mem _ ha)
/-- the same with an invariant; the loop's own names are forgotten: the state is any env that R tells -/
theorem loopS_inv {α : Type} {t : Tgt} {fb : Sf} (enc : α → PyData) (R : List α → Env → Prop) : ∀ (xs pre : List α) (ρ : Env), R pre ρ → (∀ pre a ρ, a ∈ xs → R pre ρ → ∃ ρ1 ρ2, bindT t (enc a) ρ = .ok ρ1 ∧ fb ρ1 = .nx ρ2 ∧ R (pre ++ [a]) ρ2) →
    ∃ ρ', loopS t fb (xs.map enc) ρ = .nx ρ' ∧ R (pre ++ xs) ρ'
  | [], pre, ρ, r, _ => ⟨ρ, rfl, by simpa using r⟩
  | a :: xs, pre, ρ, r, h => by
    obtain ⟨ρ1, ρ2, h1, h2, h3⟩ := h pre a ρ List.mem_cons_self r
    obtain ⟨ρ', h4, h5⟩ := loopS_inv enc R xs (pre ++ [a]) ρ2 h3 fun pre b ρ hb => h pre b ρ (List.mem_cons_of_mem _ hb)
    refine ⟨ρ', ?_, by simpa using h5⟩
    rw [List.map_cons]
    unfold loopS
    rw [h1]
    dsimp only
    rw [h2]
    exact h4
/-- a loop that may return -/
theorem loopS_find {α : Type} {t : Tgt} {fb : Sf} (enc : α → PyData) (R : Env → Prop) (out : α → Option PyData) : ∀ (xs : List α) (ρ : Env), R ρ → (∀ a ρ, a ∈ xs → R ρ → ∃ ρ1, bindT t (enc a) ρ = .ok ρ1 ∧ (match out a with
      | some d => fb ρ1 = .ret d
      | none => ∃ ρ2, fb ρ1 = .nx ρ2 ∧ R ρ2)) →
    match xs.findSome? out with
    | some d => loopS t fb (xs.map enc) ρ = .ret d
    | none => ∃ ρ', loopS t fb (xs.map enc) ρ = .nx ρ' ∧ R ρ'
  | [], ρ, r, _ => ⟨ρ, rfl, r⟩
  | a :: xs, ρ, r, h => by
    obtain ⟨ρ1, h1, h2⟩ := h a ρ List.mem_cons_self r
    rw [List.findSome?_cons]
    cases ho : out a with
    | some d =>
      rw [ho] at h2
      dsimp only at h2 ⊢
      rw [List.map_cons]
      unfold loopS
      rw [h1]
      dsimp only
      rw [h2]
    | none =>
      rw [ho] at h2
      obtain ⟨ρ2, h3, h4⟩ := h2
      have ih := loopS_find enc R out xs ρ2 h4 fun b ρ hb => h b ρ (List.mem_cons_of_mem _ hb)
      have e : loopS t fb ((a :: xs).map enc) ρ = loopS t fb (xs.map enc) ρ2 := by
        rw [List.map_cons]
        show (match bindT t (enc a) ρ with | .ok ρ1 => _ | _ => _) = _
        rw [h1]
        dsimp only
        rw [h3]
      dsimp only
      rw [e]
      exact ih
theorem rangeD_map (n : Nat) : rangeD 0 (n : Int) = (List.range n).map fun (i : Nat) => PyData.int (i : Int) := by
  unfold rangeD
  rw [Int.sub_zero, Int.toNat_natCast]
  congr 1
  funext i
  rw [Int.zero_add]
theorem atI_ofNat {α : Type} {xs : List α} {i : Int} {j : Nat} {v : α} (e : i = (j : Int)) (h : xs[j]? = some v) : atI xs i = some v := by
  rw [e]; exact atI_nat h
@[simp] theorem atI_zero {α : Type} (x : α) (xs : List α) : atI (x :: xs) 0 = some x := atI_nat (j := 0) rfl
@[simp] theorem atI_one {α : Type} (x y : α) (xs : List α) : atI (x :: y :: xs) 1 = some y := atI_nat (j := 1) rfl
@[simp] theorem atI_two {α : Type} (x y z : α) (xs : List α) : atI (x :: y :: z :: xs) 2 = some z := atI_nat (j := 2) rfl
@[simp] theorem atI_three {α : Type} (x y z u : α) (xs : List α) : atI (x :: y :: z :: u :: xs) 3 = some u := atI_nat (j := 3) rfl
end L2.DL
set_option maxHeartbeats 2000000
namespace L2.DL
open PySem PySem.Spec PyProof.Rows

/-! ### enumerate(list), the pairs known -/
def IteF (K : PySem.W.Frag) (a : Addr) : It :=
  ⟨(Ite K a).go, fun i H v H' => ∃ (T : Addr) (ob : Obj) (x : V), ob.dict = none ∧ v = .ref T ∧ H T = none ∧ H' = upd H T (.frz ob (.tup [.int (i : Nat), x])) ∧ ∀ xs, SqL K H a xs → xs[i]? = some x, (Ite K a).stop⟩
theorem turn_enumF {P : Program} {w : World} {K : PySem.W.Frag} {elts : List Expr} {kk : Nat} {tpos : Pos} (a e it : Addr) :
    Turn P w K (.Tuple elts kk tpos) (IteF K a) [e, it] e (fun i h => (∃ old, IsEnum h e it ((i : Nat) : Int) old) ∧ h.IsListIter it a i ∧ e ≠ it) :=
  let B := turn_enum (P := P) (w := w) (K := K) (elts := elts) (kk := kk) (tpos := tpos) a e it
  { mem := B.mem, obj := B.obj, keep := B.keep, done := B.done, self := B.self,
    item := by
      intro X h1 h2 h3 hc i pins s σ H E J hf st hg
      subst h1 h2 h3
      obtain ⟨⟨o0, e0⟩, t0, ne⟩ := st
      obtain ⟨xs, x, hq, hx⟩ := hg
      obtain ⟨ys, yv, yp, _⟩ := J.list hq
      obtain ⟨u, uy, ux⟩ := yv.get hx
      have le : e < s.heap.objs.size := Heap.lt_size e0
      have lt : it < s.heap.objs.size := by obtain ⟨_, z, _⟩ := t0; exact Heap.lt_size z
      refine wpAny_pyNext_enum_item e0 t0 yp.isList (x := u) (by simpa using uy) ne fun g1 go gi gT _ gk => ⟨_, rfl, wpAny_letOwnedTupleGo_enum (s := { s with heap := g1, toks := s.toks + 1 }) go fun g2 ge gs => ?_⟩
      have new2 : g2.get? s.heap.objs.size = some { cls := .type "tuple", data := .seq #[.int i s.toks, u] } := (gs.2 _ (Nat.ne_of_gt le)).trans gT
      have ok2 : ObjOk X.prog X.w (upd H s.heap.objs.size (.frz { cls := .type "tuple", data := .seq #[.int i s.toks, u] } (.tup [.int (i : Nat), x]))) g2 s.heap.objs.size (.frz { cls := .type "tuple", data := .seq #[.int i s.toks, u] } (.tup [.int (i : Nat), x])) :=
        ⟨new2, by show 2 ≤ sizeLine; decide, [.int i s.toks, u], .cons ⟨_, rfl⟩ (.cons ux .nil), _, new2, rfl, _, rfl⟩
      have J2 := J.turnedNew (t' := s.toks + 1) (ch := [e, it]) (fun b o hb q => (gs.2 b (fun z => hb (by simp [z]))).trans (gk b o (fun z => hb (by simp [z])) (fun z => hb (by simp [z])) q)) hf (Nat.le_refl _) ok2
      refine ⟨.ref s.heap.objs.size, _, J2, rfl, ⟨_, _, x, rfl, rfl, J.hok.fresh (Nat.le_refl _), rfl, fun zs hz => by rw [J.list_inj hz hq]; exact hx⟩, ⟨⟨u, ?_⟩, gi.at fun o q => (gs.2 it (Ne.symm ne)).trans q, ne⟩, fun b hb => ?_⟩
      · rw [show ((i + 1 : Nat) : Int) = (i : Int) + 1 by omega]; exact ge
      · have : b < s.heap.objs.size := by
          rcases (by simpa using hb : b = e ∨ b = it) with z | z <;> rw [z] <;> assumption
        rw [upd_ne (Nat.ne_of_lt this)]
        exact (hf b hb).1 }
def iEnumF (K : PySem.W.Frag) (ta : TA) : TI := fun σ H R => ta σ H fun vs H1 => ∃ a xs, vs = [.ref a] ∧ SqL K H1 a xs ∧ R (IteF K a) H1
theorem pi_enumF {X : Cx} {e : Expr} {ta : TA} {p pos tpos : Pos} {elts : List Expr} {kk : Nat} (hg : Gl X "enumerate") (hm : X.mg "enumerate" = none) (ha : PA X [e] ta) (hs : starEach [e] X.env = [(false, eval e X.env)] := by rfl) :
    PI X (.Tuple elts kk tpos) (.Call (.Name "enumerate" p) [e] [] pos) (iEnumF X.K ta) := by
  constructor
  intro pins s σ H R J h
  refine Call_ (ld_blt J hg hm boot_enumerate (PyProof.Rows.callWith_type1 (thn (ha.run pos pins s σ H _ J h) fun us s1 ⟨vs, H1, J1, r1, a, xs, ex, hq, q⟩ => ?_) hs rfl))
  subst ex
  cases r1 with
  | cons r rr =>
    cases rr
    cases r
    obtain ⟨ys, yv, yp, _⟩ := J1.list hq
    refine call_enumerate_list yp.isList fun g ge gi _ gk => wpAny_pyIter_enum ge ⟨s1.heap.objs.size + 1, [s1.heap.objs.size + 1, s1.heap.objs.size], _, _, H1, rfl, J1.kept (t' := s1.toks) gk, turn_enumF a (s1.heap.objs.size + 1) s1.heap.objs.size, ⟨⟨.none, ge⟩, gi, Nat.succ_ne_self _⟩, fun b hb => ?_, q⟩
    have : s1.heap.objs.size ≤ b := by
      rcases (by simpa using hb : b = s1.heap.objs.size + 1 ∨ b = s1.heap.objs.size) with z | z <;> rw [z] <;> omega
    exact J1.fpOk this (J1.hok.fresh this)
/-- a def of which nothing is told -/
theorem Df.bad {P : Program} {w : World} {K : PySem.W.Frag} {mg : Str → Option Value} {base : Heap} {x qual : Str} {st : Stmt} {f : Addr} {fd : FuncData} {N ps : List Str} {k n : Nat} (F : Fun K x qual st f fd) (hm : mg x = some (.ref f)) (b : Binds K fd ps []) (S : FnScope N ps (defScope st)) (hn : ps.length = n) : Df P w K mg base x (k + 1) n (fun _ => .bad) :=
  ⟨f, fd, ps, F.okX S (fun _ _ _ _ h => h.1.trans hn.symm) fun _ _ _ _ _ _ _ _ _ h => by obtain ⟨_, _, _, q⟩ := h; exact q.elim, hm, F.kp, b⟩
section
variable {X : Cx} {W : WX} {a b : Expr} {fa fb : Ex} {p pos tpos : Pos} {elts : List Expr} {kk : Nat}
theorem i_enum (hm : X.mg "enumerate" = none) (h : DE X W a fa) (hg : Gl X "enumerate" := by rfl) (hs : starEach [a] X.env = [(false, eval a X.env)] := by rfl) (hs' : starEach [a] X.env = (false, eval a X.env) :: starEach [] X.env := by rfl) :
    DI X W (.Tuple elts kk tpos) (.Call (.Name "enumerate" p) [a] [] pos) (itEnum fa) := by
  refine piImp (pi_enumF hg hm (pa_cons h pa_nil hs') hs) fun σ H Q ⟨ρ, hρ, h⟩ => ⟨ρ, hρ, (Post.bindI h).imp fun v H1 _ ⟨d, _, s1, rx, h1⟩ => ?_⟩
  cases d with
  | list ds =>
    obtain ⟨q, vs, rfl, hs, hv⟩ := dp_lst rx
    refine ⟨q, vs, rfl, hs, h1 _ H1 (Same.refl _) ⟨fun i H hi s => ?_, fun H s => ?_, fun i H x H' hi s y => ?_⟩⟩
    · rw [enumFrom_length] at hi
      have hl : i < vs.length := by rw [hv.len]; exact hi
      exact ⟨vs, vs[i], s.seq hs, by simp [hl]⟩
    · refine ⟨vs, s.seq hs, ?_⟩
      rw [enumFrom_length, hv.len]
      exact Nat.le_refl _
    · obtain ⟨T, ob, z, y1, y2, y3, y4, y5⟩ := y
      obtain ⟨d, e1, e2⟩ := hv.getV (y5 vs (s.seq hs))
      refine ⟨_, enumFrom_get (i := 0) e1, .inr ⟨T, ob, _, _, y1, y3, y2, y4, .cons ?_ (.cons e2 .nil), rfl⟩⟩
      rw [Nat.zero_add]
      exact .int _
  | _ => exact h1.elim
end
end L2.DL
set_option maxHeartbeats 2000000
namespace L2.DL
open PySem PySem.Spec PyProof.Rows

/-! ### sorted of rows of whole numbers -/
def encRow (ns : List Int) : PyData := .list (ns.map .int)
def toRows : List PyData → Option (List (List Int))
  | [] => some []
  | .list xs :: r => (toInts xs).bind fun ns => (toRows r).map (ns :: ·)
  | _ :: _ => none
theorem toRows_map : ∀ rs : List (List Int), toRows (rs.map encRow) = some rs
  | [] => rfl
  | ns :: r => by
    show (toInts (ns.map PyData.int)).bind (fun ns => (toRows (r.map encRow)).map (ns :: ·)) = _
    rw [toInts_map, toRows_map r]
    rfl
theorem toRows_enc : ∀ {ds : List PyData} {rs : List (List Int)}, toRows ds = some rs → ds = rs.map encRow
  | [], rs, h => by cases h; rfl
  | d :: r, rs, h => by
    cases d with
    | list xs =>
      unfold toRows at h
      cases e1 : toInts xs with
      | none => rw [e1] at h; cases h
      | some ns =>
        rw [e1, Option.bind_some] at h
        cases e2 : toRows r with
        | none => rw [e2] at h; cases h
        | some rs' =>
          rw [e2] at h
          cases h
          rw [List.map_cons, toRows_enc e2]
          congr 1
          have : ∀ {xs : List PyData} {ns : List Int}, toInts xs = some ns → xs = ns.map .int := by
            intro xs
            induction xs with
            | nil => intro ns h; cases h; rfl
            | cons x xs ih =>
              intro ns h
              cases x with
              | int i =>
                have h : (toInts xs).map (i :: ·) = some ns := h
                cases e : toInts xs with
                | none => rw [e] at h; cases h
                | some q =>
                  rw [e] at h
                  cases h
                  rw [ih e]
                  rfl
              | _ => cases h
          rw [this e1]
          rfl
    | _ => cases h
def sortRows (rs : List (List Int)) : List (List Int) := rs.mergeSort (PySem.W.dataLe false encRow)
def oSortedR : PyData → Option PyData
  | .list xs => (toRows xs).bind fun rs => if rs.length < 64 then some (.list ((sortRows rs).map encRow)) else none
  | _ => none
section
variable {K : PySem.W.Frag} {H : Hp}
/-- a row's list -/
def Rw (K : PySem.W.Frag) (H : Hp) (x : V) (ns : List Int) : Prop := ∃ a, x = .ref a ∧ SqL K H a (ns.map V.int)
theorem rw_of : ∀ {rs : List (List Int)} {xs : List V}, DpAll K H xs (rs.map encRow) → PySem.W.EachIs (Rw K H) xs rs
  | [], xs, h => by
    have h : DpAll K H xs [] := h
    cases h
    exact .nil
  | ns :: rs, xs, h => by
    have h : DpAll K H xs (encRow ns :: rs.map encRow) := h
    cases h with
    | cons h1 h2 =>
      obtain ⟨a, vs, rfl, ha, hv⟩ := dp_lst h1
      rw [dp_ints hv (toInts_map ns)] at ha
      exact .cons ⟨a, rfl, ha⟩ (rw_of h2)
theorem rw_to : ∀ {rs : List (List Int)} {xs : List V}, PySem.W.EachIs (Rw K H) xs rs → DpAll K H xs (rs.map encRow)
  | _, _, .nil => .nil
  | _, _, .cons ⟨a, e, h1⟩ h2 => by
    subst e
    exact .cons (.lst h1 (of_ints _)) (rw_to h2)
def rSortedRw (K : PySem.W.Frag) : List V → Hp → VK → Prop := fun vs H Q => ∃ (a : Addr) (xs : List V) (rs : List (List Int)), vs = [V.ref a] ∧ SqL K H a xs ∧ PySem.W.EachIs (Rw K H) xs rs ∧ rs.length < 64 ∧
  ∀ (ys : List V) (p : Addr), PySem.W.EachIs (Rw K H) ys (sortRows rs) → H p = none → Q (.ref p) (upd H p (.lst ys))
theorem each_vals {its : List Value} {xs : List V} {rs : List (List Int)} (r : Vals xs its) (e : PySem.W.EachIs (Rw K H) xs rs) : PySem.W.EachIs (fun v ns => ∃ x, RelV x v ∧ Rw K H x ns) its rs := by
  induction e generalizing its with
  | nil => cases r; exact .nil
  | cons h1 _ ih =>
    cases r with
    | cons r1 r2 => exact .cons ⟨_, r1, h1⟩ (ih r2)
theorem each_back {out : List Value} {rs : List (List Int)} (e : PySem.W.EachIs (fun v ns => ∃ x, RelV x v ∧ Rw K H x ns) out rs) : ∃ ys : List V, Vals ys out ∧ PySem.W.EachIs (Rw K H) ys rs := by
  induction e with
  | nil => exact ⟨[], .nil, .nil⟩
  | cons h1 _ ih =>
    obtain ⟨x, r, h⟩ := h1
    obtain ⟨ys, q1, q2⟩ := ih
    exact ⟨x :: ys, .cons r q1, .cons h q2⟩
theorem reads_ints {h : Heap} : ∀ {ns : List Int} {its : List Value}, Vals (ns.map V.int) its → ∃ as, ReadsAll h its (ns.map .int) as
  | [], its, r => by cases r; exact ⟨[], .nil⟩
  | n :: ns, its, r => by
    cases r with
    | cons r1 r2 =>
      obtain ⟨t, rfl⟩ := r1
      obtain ⟨as, q⟩ := reads_ints (h := h) r2
      exact ⟨_, .cons (.int n t) q⟩
theorem cr_sortedR {X : Cx} (hu : X.A.units + 65 < cLine) : CallR X (.builtin "sorted") (rSortedRw X.K) := by
  intro pins s σ H vs us Q I r h
  obtain ⟨a, xs, rs, rfl, hs, he, h64, q⟩ := h
  obtain ⟨its, rv, hl, hz⟩ := I.list hs
  rw [Vals.ref1 r]
  have e1 := each_vals rv he
  have e2 : PySem.W.EachIs (fun v ns => ∃ as, Reads s.heap v (encRow ns) as) its rs := e1.mono fun v ns ⟨x, hx, b, eb, hb⟩ => by
    subst eb
    obtain rfl : v = Value.ref b := hx
    obtain ⟨jts, jv, jl, _⟩ := I.list hb
    obtain ⟨o, ho, hc, n, hd⟩ := jl.isList
    obtain ⟨as, hr⟩ := reads_ints (h := s.heap) jv
    exact ⟨_, .list ho hc hd (by rw [List.toList_toArray] <;> exact hr)⟩
  have hdep : ∀ b, b ∈ rs → X.A.units + 2 + (encRow b).depth < cLine := fun b _ => by
    have : (encRow b).depth ≤ 1 := by simp [encRow, PyData.depth, PySem.W.depth_ints]
    omega
  refine PySem.W.sorted_data hl.isList e1 e2 (PySem.W.AllAlike.of fun b b' => by simp [encRow, PySem.W.alike, PySem.W.alike_ints]) (PySem.W.Sortable.others fun b => ⟨by simp [encRow], by simp [encRow]⟩) (small64 h64) hdep fun out ho hout => ?_
  obtain ⟨ys, q1, q2⟩ := each_back hout
  obtain ⟨ep, he'⟩ := PyProof.Rows.sortedAll_at s.heap its (List.toArray out)
  have hlen : ys.length ≤ sizeLine := by rw [q1.length, ho]; exact small64 h64
  exact ⟨.ref _, upd H (s.heap.objs.size + 1) (.lst ys), I.laid (t' := s.toks) (fun _ _ => PyProof.Rows.sortedAll_old) (Nat.le_succ _) ⟨hlen, out, ep, q1, he'⟩, rfl, q ys _ q2 (I.hok.fresh (Nat.le_succ _))⟩
theorem o1_sortedR : Op1 K (rSortedRw K) oSortedR := by
  intro x dx d H Q rx e q
  cases dx with
  | list ds =>
    obtain ⟨a, vs, rfl, ha, hva⟩ := dp_lst rx
    unfold oSortedR at e
    cases e1 : toRows ds with
    | none => simp only [e1] at e; cases e
    | some rs =>
      simp only [e1, Option.bind_some] at e
      split at e
      · rename_i h64
        cases e
        rw [toRows_enc e1] at hva
        refine ⟨a, vs, rs, rfl, ha, rw_of hva, h64, fun ys p he hp => ?_⟩
        exact q _ _ (sameUpd hp) (.lst (.inl (.inl upd_same)) (dpAllMono (sameUpd hp) (rw_to he)))
      · cases e
  | _ => cases e
end
section
variable {X : Cx} {W : WX} {a : Expr} {fa : Ex} {p pos : Pos}
theorem d_sortedR (hu : X.A.units + 65 < cLine) (hm : X.mg "sorted" = none) (ha : DE X W a fa) (hg : Gl X "sorted" := by rfl) (hs : starEach [a] X.env = (false, eval a X.env) :: starEach [] X.env := by rfl) (hpl : (backTo pos (starEach [] X.env)).any (·.1) = false := by rfl) : DE X W (.Call (.Name "sorted" p) [a] [] pos) (eCall1 oSortedR fa) := d_b1 (cr_sortedR hu) o1_sortedR hm ha hg (hs := hs) (hpl := hpl)
end
end L2.DL
set_option maxHeartbeats 2000000
namespace L2.DL
open PySem PySem.Spec PyProof.Rows

/-! ### an except suite that hands back a constant -/
/-- slot i has the exception at a; e is v -/
abbrev HE (X : Cx) (i : Nat) (a : Addr) (e : Expr) (v : V) : Prop := PE X e (fun σ H Q => σ[i]? = some (some (.ref a)) ∧ Q v H)
section
variable {X : Cx} {i : Nat} {a : Addr} {e b : Expr} {rest : List Expr} {v : V} {c : Bool} {pos : Pos}
theorem h_one {o} (h : HE X i a e v) : HE X i a (.BoolOp o [e] pos) v := pe_one h
theorem h_and (ha : HE X i a e (.bl true)) (hb : HE X i a (.BoolOp .And (b :: rest) pos) v) : HE X i a (.BoolOp .And (e :: b :: rest) pos) v :=
  peImp (pe_and ha hb) fun σ H Q ⟨h1, h2⟩ => ⟨h1, true, rfl, ⟨h1, h2⟩⟩
theorem h_not (ha : HE X i a e (.bl false)) : HE X i a (.UnaryOp .Not e pos) (.bl true) := peImp (pe_not ha) fun σ H Q ⟨h1, h2⟩ => ⟨h1, false, rfl, h2⟩
end
/-- a class of the text's own, raised and caught -/
structure ExcI (K : PySem.W.Frag) (mg : Str → Option Value) (x : Str) (C : Addr) : Prop where
  mg : mg x = some (.ref C)
  exm : PySem.W.exmOne K (.ref C) (.ref C) = some true
  cls : ExcC K C
section
variable {X : Cx} {i : Nat} {a C : Addr} {oe : Obj} {pn : List (Addr × Obj)} {x n : Str} {c : Value} {b : Bool} {p p1 p2 pos : Pos}
/-- isinstance(e, T), T a class of the text's own -/
theorem h_isC {D : Addr} (T : ExcC X.K C) (hz : Zc (.ref C) none oe) (hf : ∃ vs, oe.data = .fields vs) (hm : X.mg "isinstance" = none) (hx : X.mg x = some (.ref D)) (hk : PySem.W.kitOne X.K (.ref C) (.ref D) = some b)
    (hi : X.N[i]? = some n := by rfl) (hv : Vis X.env.scope n := by first | exact Or.inl rfl | exact Or.inr (Or.inl rfl) | exact Or.inr (Or.inr rfl)) (hd : (n == ("__debug__" : Str)) = false := by decide) (hcd : (n == ("__classdict__" : Str)) = false := by decide)
    (hg : Gl X "isinstance" := by rfl) (hgx : Gl X x := by rfl) (hdx : (x == ("__debug__" : Str)) = false := by decide)
    (hs : starEach [.Name n p1, .Name x p2] X.env = (false, eval (.Name n p1) X.env) :: starEach [.Name x p2] X.env := by rfl) (hs2 : starEach [.Name x p2] X.env = (false, eval (.Name x p2) X.env) :: starEach [] X.env := by rfl) (hpl : (backTo pos (starEach [.Name x p2] X.env)).any (·.1) = false := by rfl) :
    HE (X.suite a ((a, oe) :: pn)) i a (.Call (.Name "isinstance" p) [.Name n p1, .Name x p2] [] pos) (.bl b) := by
  refine peImp (pe_callB (X := X.suite a ((a, oe) :: pn)) (call_isE T hz hf) hg hm (by decide +kernel) (pa_cons (pv i hi hv hd hcd) (pa_cons (pe_glob (v := .ref D) hgx hx rfl hdx) pa_nil hs2) hs) (he := hs) (hpl := hpl)) fun σ H Q ⟨h1, h2⟩ => ?_
  exact ⟨.ref a, h1, .ref D, .ref D, b, rfl, fun u hu => hu, hk, h2⟩
/-- isinstance(e, T), T built in -/
theorem h_isT {t : String} (T : ExcC X.K C) (hz : Zc (.ref C) none oe) (hf : ∃ vs, oe.data = .fields vs) (hm : X.mg "isinstance" = none) (hx : X.mg x = none) (hbt : bootBuiltins x = some (.type t)) (hk : PySem.W.kitOne X.K (.ref C) (.type t) = some b)
    (hi : X.N[i]? = some n := by rfl) (hv : Vis X.env.scope n := by first | exact Or.inl rfl | exact Or.inr (Or.inl rfl) | exact Or.inr (Or.inr rfl)) (hd : (n == ("__debug__" : Str)) = false := by decide) (hcd : (n == ("__classdict__" : Str)) = false := by decide)
    (hg : Gl X "isinstance" := by rfl) (hgx : Gl X x := by rfl) (hdx : (x == ("__debug__" : Str)) = false := by decide) (hnx : x ≠ "__name__" := by decide)
    (hs : starEach [.Name n p1, .Name x p2] X.env = (false, eval (.Name n p1) X.env) :: starEach [.Name x p2] X.env := by rfl) (hs2 : starEach [.Name x p2] X.env = (false, eval (.Name x p2) X.env) :: starEach [] X.env := by rfl) (hpl : (backTo pos (starEach [.Name x p2] X.env)).any (·.1) = false := by rfl) :
    HE (X.suite a ((a, oe) :: pn)) i a (.Call (.Name "isinstance" p) [.Name n p1, .Name x p2] [] pos) (.bl b) := by
  refine peImp (pe_callB (X := X.suite a ((a, oe) :: pn)) (call_isE T hz hf) hg hm (by decide +kernel) (pa_cons (pv i hi hv hd hcd) (pa_cons (pe_bltn (v := .ty t) hgx hx hbt rfl hnx hdx) pa_nil hs2) hs) (he := hs) (hpl := hpl)) fun σ H Q ⟨h1, h2⟩ => ?_
  exact ⟨.ref a, h1, .ty t, .type t, b, rfl, fun u hu => hu, hk, h2⟩
end
/-- the body; where it raises c: d -/
def tryRetS (c : Str) (i : Nat) (d : PyData) (f : Sf) : Sf := fun ρ => match f ρ with
  | .err c' ρ' => if c' = c ∧ i < ρ'.length then .ret d else .bad
  | r => r
theorem s_tryAs {X : Cx} {W : WX} {M M' Lb : List Nat} {C : Addr} {x n : Str} {i : Nat} {body suite : List Stmt} {b₀ : Stmt} {np pos pos' : Pos} {d : PyData} {v : V} {fb : Sf} (T : ExcI X.K X.mg x C) (hv : ∀ H, Dp X.K H v d)
    (hs : X.stack = X.env :: X.outer) (hf : X.env.frame = some X.env.locals) (hN : X.N.Nodup) (tk : Takes X W)
    (hb : ∀ (W' : WX) (pn : List (Addr × Obj)) (xe : Value → Shared → Prop), Takes (X.tr pn xe) W' → PassesOwn (model X.prog X.w) X.A X.env xe → DSs (X.tr pn xe) W' M M' Lb body fb)
    (hsu : ∀ (a : Addr) (oe : Obj) (pn : List (Addr × Obj)), Zc (.ref C) none oe → (∃ vs, oe.data = .fields vs) → PSs (X.suite a ((a, oe) :: pn)) (b₀ :: suite) (fun D σ H => σ[i]? = some (some (.ref a)) ∧ D.rt v H))
    (hi : X.N[i]? = some n := by rfl) (hln : X.env.kindOf n = some .local := by rfl) (hg : Gl X x := by rfl) (hdb : (x == ("__debug__" : Str)) = false := by decide) :
    DS X W M M' Lb (.Try body [.ExceptHandler (some (.Name x np)) (some n) (b₀ :: suite) pos'] [] [] pos) (tryRetS x i d fb) := by
  refine psImp (ps_try_as (tb := fun W' => tS X.K X.mg W' M M' Lb fb) (ts := fun a cls dd D σ H => (cls = .ref C ∧ dd = none) ∧ σ[i]? = some (some (.ref a)) ∧ D.rt v H) hs hf hN hi hln ⟨hg, hdb, .inl T.mg⟩ tk hb fun a oe cls dd pn hz hvs => ?_) fun D σ H ⟨G, o, ρ, hm, R, q⟩ => ⟨G, o, ρ, hm, R, ?_⟩
  · by_cases h : cls = .ref C ∧ dd = none
    · obtain ⟨rfl, rfl⟩ := h
      exact ⟨fun pins s σ H D I z => (hsu a oe pn hz hvs).run pins s σ H D I z.2⟩
    · exact ⟨fun pins s σ H D I z => absurd z.1 h⟩
  · unfold tryRetS at q
    cases e : fb ρ with
    | err c' ρ' =>
      rw [e] at q
      dsimp only at q
      split at q
      · rename_i hc
        obtain ⟨rfl, hil⟩ := hc
        refine ⟨C, T.mg, fun σ' H' d0 s hρ => ?_⟩
        obtain ⟨d0, rfl⟩ := d0
        refine ⟨true, T.exm, fun _ a' _ => ⟨⟨rfl, rfl⟩, ?_, q v H' s (hv H')⟩, fun z => by cases z⟩
        have : i < σ'.length := by rw [← hρ.len]; exact hil
        simp [this]
      · exact q.elim
    | nx ρ' => rw [e] at q; exact q
    | brk ρ' => rw [e] at q; exact q
    | cnt ρ' => rw [e] at q; exact q
    | ret d' => rw [e] at q; exact q
    | bad => rw [e] at q; exact q.elim
theorem h_ret {X : Cx} {i : Nat} {a : Addr} {e : Expr} {v : V} {pos : Pos} (h : HE X i a e v) : PSs X [.Return (some e) pos] (fun D σ H => σ[i]? = some (some (.ref a)) ∧ D.rt v H) :=
  ⟨fun pins s σ H D I z => (pss_one (ps_ret h)).run pins s σ H D I z⟩
/-! ### text * 1 -/
theorem op_strOnce {X : Cx} : OpR X (binaryOp .Mult) (fun x y H Q => ∃ z, x = .str z ∧ y = .int 1 ∧ Q (.str z) H) := by
  intro pins s σ H x y v u Q I rx ry ⟨z, ex, ey, q⟩
  subst ex ey
  obtain ⟨t, rfl⟩ := rx
  obtain ⟨t2, rfl⟩ := ry
  refine PySem.P.mul_str (by decide) (fun _ h => by simp at h) (fun _ h => by simp at h) ?_
  rw [if_neg (by omega), if_pos (by rfl)]
  exact ⟨.str z, H, I, ⟨t, rfl⟩, q⟩
section
variable {X : Cx} {i : Nat} {a : Addr} {e : Expr} {v : V} {c : Bool} {z : Str} {p p2 pos : Pos}
theorem h_int (hm : X.mg "int" = none) (h : HE X i a e (.bl true)) (hg : Gl X "int" := by rfl) (hs : starEach [e] X.env = (false, eval e X.env) :: starEach [] X.env := by rfl) (hpl : (backTo pos (starEach [] X.env)).any (·.1) = false := by rfl) : HE X i a (.Call (.Name "int" p) [e] [] pos) (.int 1) :=
  peImp (pe_callTy call_int1 hg hm (by decide +kernel) (pa_cons h pa_nil hs) (by decide) (by decide) hs hpl) fun σ H Q ⟨h1, h2⟩ => ⟨h1, .inr ⟨true, rfl, h2⟩⟩
theorem h_once {j : Nat} (h : HE X i a e (.int 1)) : HE X i a (.BinOp (.Constant (.str z) j p2) .Mult e pos) (.str z) :=
  peImp (pe_op op_strOnce pe_str h) fun σ H Q ⟨h1, h2⟩ => by
    exact ⟨h1, z, rfl, rfl, h2⟩
end
/-! ### str of a whole number -/
def oStr : PyData → Option PyData
  | .int i => if i.natAbs.log2 < 1920 then some (.str (toString i)) else none
  | _ => none
theorem o1_str {K : PySem.W.Frag} : Op1 K (fun xs H Q => ∃ i : Int, xs = [.int i] ∧ i.natAbs.log2 < 1920 ∧ Q (.str (toString i)) H) oStr := by
  intro x dx d H Q rx e q
  cases dx with
  | int i =>
    unfold oStr at e
    dsimp only at e
    split at e
    · rename_i hc
      cases e
      rw [dp_int rx]
      exact ⟨i, rfl, hc, q _ H (Same.refl _) (.str _)⟩
    · cases e
  | _ => cases e
section
variable {X : Cx} {W : WX} {a : Expr} {fa : Ex} {p pos : Pos}
theorem d_strc (hm : X.mg "str" = none) (ha : DE X W a fa) (hg : Gl X "str" := by rfl) (hs : starEach [a] X.env = (false, eval a X.env) :: starEach [] X.env := by rfl) (hpl : (backTo pos (starEach [] X.env)).any (·.1) = false := by rfl) : DE X W (.Call (.Name "str" p) [a] [] pos) (eCall1 oStr fa) := d_t1 call_str_int o1_str hm ha hg (hs := hs) (hpl := hpl)
end
end L2.DL
set_option maxHeartbeats 2000000
namespace L2.DL
open PySem PySem.Spec PyProof.Rows

theorem kitCls_own {K : PySem.W.Frag} {C D : Addr} {b : Bool} (h2 : PySem.W.isClsIn K D = true) (h3 : PySem.W.typeIn K (.ref D) = some (.type "type")) (h4 : PySem.W.subIn K (.ref C) (.ref D) = some b) : PySem.W.kitCls K (.ref C) (.ref D) = some b := by
  have e2 : ((PySem.W.clsIn K D).isSome && PySem.W.typeIn K (.ref D) == some (.type "type")) = true := by
    have h2' : (PySem.W.clsIn K D).isSome = true := h2
    rw [h2', h3] <;> rfl
  show (if ((PySem.W.clsIn K D).isSome && PySem.W.typeIn K (.ref D) == some (.type "type")) = true then PySem.W.subIn K (.ref C) (.ref D) else none) = some b
  rw [if_pos e2]
  exact h4
theorem exm_own {K : PySem.W.Frag} {C D : Addr} {b : Bool} (h1 : PySem.W.subIn K (.ref D) (.type "BaseException") = some true) (h2 : PySem.W.isClsIn K D = true) (h3 : PySem.W.typeIn K (.ref D) = some (.type "type")) (h4 : PySem.W.subIn K (.ref C) (.ref D) = some b) : PySem.W.exmOne K (.ref C) (.ref D) = some b := by
  have e1 : (PySem.W.subIn K (.ref D) (.type "BaseException") == some true) = true := by rw [h1] <;> rfl
  show (if (PySem.W.subIn K (.ref D) (.type "BaseException") == some true) = true then PySem.W.kitCls K (.ref C) (.ref D) else none) = some b
  rw [if_pos e1]
  exact kitCls_own h2 h3 h4
theorem kit_own {K : PySem.W.Frag} {C D : Addr} {b : Bool} (h1 : PySem.W.subIn K (.ref C) (.ref C) = some true) (h2 : PySem.W.isClsIn K D = true) (h3 : PySem.W.typeIn K (.ref D) = some (.type "type")) (h4 : PySem.W.subIn K (.ref C) (.ref D) = some b) : PySem.W.kitOne K (.ref C) (.ref D) = some b := by
  unfold PySem.W.kitOne
  by_cases h : C = D
  · subst h
    rw [h1] at h4
    rw [if_pos (by simp), h4]
  · rw [if_neg (by simp; exact h)]
    exact kitCls_own h2 h3 h4
theorem kit_bltn {K : PySem.W.Frag} {C : Addr} {t : String} {b : Bool} (hk : PySem.W.kitMeta t = true) (h4 : PySem.W.subIn K (.ref C) (.type t) = some b) : PySem.W.kitOne K (.ref C) (.type t) = some b := by
  unfold PySem.W.kitOne
  rw [if_neg (by simp)]
  show (if PySem.W.kitMeta t = true then PySem.W.subIn K (.ref C) (.type t) else none) = some b
  rw [if_pos hk]
  exact h4
end L2.DL
set_option maxHeartbeats 2000000
namespace L2.DL
open PySem PySem.Spec PyProof.Rows

/-! ### [..] * k -/
def repD (xs : List PyData) (k : Int) : List PyData := (List.replicate k.toNat xs).flatten
def eRep (f : Env → Res (List PyData)) (g : Ex) : Ex := fun ρ => (f ρ).bind fun xs => (g ρ).bind fun y => (asI y).bind fun k => if (-1000 ≤ k ∧ k ≤ 1000) ∧ xs.length ≤ 1000 then .ok (.list (repD xs k)) else .bad
theorem dp_rep {K : PySem.W.Frag} {H : Hp} {vs : List V} {ds : List PyData} (h : DpAll K H vs ds) : ∀ n : Nat, DpAll K H (List.replicate n vs).flatten (List.replicate n ds).flatten
  | 0 => .nil
  | n + 1 => by
    rw [List.replicate_succ, List.replicate_succ, List.flatten_cons, List.flatten_cons]
    exact h.app (dp_rep h n)
theorem d_rep {X : Cx} {W : WX} {a k : Expr} {fa : Env → Res (List PyData)} {fk : Ex} {pos : Pos} (ha : DN X W a fa) (hk : DE X W k fk) : DE X W (.BinOp a .Mult k pos) (eRep fa fk) := by
  refine peImp (pe_op op_rep ha hk) fun σ H Q ⟨ρ, hρ, h⟩ => ⟨ρ, hρ, ?_⟩
  unfold eRep at h
  cases e : fa ρ with
  | err c => rw [e] at h; exact h
  | bad => rw [e] at h; exact h.elim
  | ok xs =>
    rw [e, Res.bind_ok] at h
    intro p vs H1 s1 n r
    have s2 : Same H (upd H1 p (.lst vs)) := s1.trans (sameUpd n)
    refine ⟨ρ, hρ.mono s2, (Post.bind (h.mono s2)).imp fun v H2 _ ⟨d, _, s3, rx, h1⟩ => ?_⟩
    cases d with
    | int k =>
      rw [dp_int rx]
      have h1 : Post X.K X.mg W σ H2 Q (if (-1000 ≤ k ∧ k ≤ 1000) ∧ xs.length ≤ 1000 then .ok (.list (repD xs k)) else .bad) := h1
      by_cases hc : (-1000 ≤ k ∧ k ≤ 1000) ∧ xs.length ≤ 1000
      · rw [if_pos hc] at h1
        have hp2 : H2 p = some (.lst vs) := s3 p _ upd_same
        have hr : DpAll X.K H2 vs xs := dpAllMono ((sameUpd n).trans s3) r
        have hl : vs.length ≤ 1000 := by rw [hr.len]; exact hc.2
        refine ⟨p, k, vs, rfl, rfl, hp2, by omega, by omega, ?_, fun q hq => h1 _ _ (sameUpd hq) (.lst (.inl (.inl upd_same)) (dpAllMono (sameUpd hq) (dp_rep hr _)))⟩
        rw [sizeLine_eq]
        have : vs.length * k.toNat ≤ 1000 * 1000 := Nat.mul_le_mul hl (by omega)
        omega
      · rw [if_neg hc] at h1
        exact h1.elim
    | _ => exact h1.elim
end L2.DL
set_option maxHeartbeats 2000000
namespace L2.DL
open PySem PySem.Spec PyProof.Rows

/-! ### instances as data: read only -/
/-- the fields of an instance of the class c -/
def insD (c : Str) : PyData → Option (List (PyData × PyData))
  | .dict ((.none, .tuple [.str x, .int _]) :: kvs) => if x = c then some kvs else none
  | _ => none
def fldD (f : Str) : List (PyData × PyData) → Option PyData
  | [] => none
  | (.str x, d) :: r => if x = f then some d else fldD f r
  | _ :: r => fldD f r
theorem insD_tag (c : Str) (a : Addr) (kvs : List (PyData × PyData)) : insD c (.dict (insTag c a :: kvs)) = some kvs := by
  simp [insD, insTag]
theorem insD_of {K : PySem.W.Frag} {H : Hp} {v : V} {d : PyData} {c : Str} {kvs : List (PyData × PyData)} (h : Dp K H v d) (e : insD c d = some kvs) :
    ∃ a dx C fs, v = .ref a ∧ d = .dict (insTag c a :: kvs) ∧ H a = some (.ins C dx fs) ∧ ClsAt K c C ∧ DpF K H fs kvs := by
  cases h with
  | ins h1 h2 h3 =>
    unfold insD insTag at e
    dsimp only at e
    split at e
    · rename_i hc
      cases e
      subst hc
      exact ⟨_, _, _, _, rfl, rfl, h1, h2, h3⟩
    · cases e
  | dic h1 h2 =>
    cases h2 with
    | nil => cases e
    | cons h3 h4 =>
      rename_i k _ _ _ _
      cases k <;> cases e
  | _ => cases e
theorem fldD_of {K : PySem.W.Frag} {H : Hp} {f : Str} : ∀ {fs : List (Str × V)} {kvs : List (PyData × PyData)}, DpF K H fs kvs → ∀ {d : PyData}, fldD f kvs = some d → ∃ v, fs.lookup f = some v ∧ Dp K H v d
  | _, _, .nil, d, e => by cases e
  | _, _, .cons (x := x) h t, d, e => by
    unfold fldD at e
    by_cases hx : x = f
    · rw [if_pos hx] at e
      cases e
      refine ⟨_, ?_, h⟩
      rw [List.lookup_cons, hx]
      simp
    · rw [if_neg hx] at e
      obtain ⟨v, h1, h2⟩ := fldD_of t e
      refine ⟨v, ?_, h2⟩
      rw [List.lookup_cons]
      have : (f == x) = false := by simpa using fun z => hx z.symm
      rw [this]
      exact h1
theorem fldD_none {K : PySem.W.Frag} {H : Hp} {f : Str} : ∀ {fs : List (Str × V)} {kvs : List (PyData × PyData)}, DpF K H fs kvs → fldD f kvs = none → fs.lookup f = none
  | _, _, .nil, e => rfl
  | _, _, .cons (x := x) h t, e => by
    unfold fldD at e
    by_cases hx : x = f
    · rw [if_pos hx] at e
      cases e
    · rw [if_neg hx] at e
      rw [List.lookup_cons]
      have : (f == x) = false := by simpa using fun z => hx z.symm
      rw [this]
      exact fldD_none t e
/-- o.m(..): an exception with the slots as they stand -/
def tMethS' (C : Addr) (m : Str) (sp : Sp) (E : St → XK) (ta : TE) (t : TA) : TE := fun σ H Q => ta σ H fun x H1 => ∃ a dx fs, x = .ref a ∧ H1 a = some (.ins C dx fs) ∧ fs.lookup m = none ∧ t σ H1 fun vs H2 => sp (x :: vs) H2 Q (E σ)
section
variable {X : Cx} {CX : CXT} {k : Nat} {f C : Addr} {fd : FuncData} {ps : List Str} {sp : Sp} {E : St → XK} {x m : Str} {p pos apos : Pos} {e o : Expr} {es : List Expr} {ta : TE} {t : TA}
theorem pe_methS' {pl : Sem Bool} (he : PE X o ta) (c : Cls X.K C) (hm : Meth X.K C m f) (F : FnOk X.prog X.w X.K X.mg X.base CX k f fd ps sp) (hr : Room k X.A) (hb : Binds X.K fd ps []) (hx : ∀ σ, PassesAt CX X σ (E σ)) (ha : PA X (e :: es) t)
    (hst : starEach (e :: es) X.env = (false, eval e X.env) :: starEach es X.env := by rfl) (hpl : (backTo pos (starEach es X.env)).any (·.1) = false := by rfl)
    (ht : eval (.Call (.Attribute o m apos) (e :: es) [] pos) X.env = (do
      let ov ← eval o X.env
      standAt apos.atName
      let (f, first) ← holding [ov] (getMethod ov m pl)
      callWith pos f first (backTo pos (starEach (e :: es) X.env)) (backToKw pos (keywordEach [] X.env))) := by rfl) :
    PE X (.Call (.Attribute o m apos) (e :: es) [] pos) (tMethS' C m sp E ta t) := by
  refine ⟨fun pins s σ H Q I h => ?_⟩
  refine PySem.W.methodCall_KW (pl := pl) (thn (he.run pins s σ H _ I h) fun u s1 ⟨x, H1, I1, rx, a, dx, fs, ex, ea, l, q⟩ => ?_) ht
  subst ex
  obtain rfl : u = Value.ref a := rx
  refine getmeth_ok I1 ea c hm l ?_
  refine PySem.W.callWith_K (first := [.ref a]) (h₀ := X.base) I.ok.mod.kin hm.kp (thn (ha.run pos pins s1 σ H1 _ I1 q) fun us s2 ⟨vs, H2, I2, r, q2⟩ => ⟨I2.kIn, ?_⟩) hst hpl
  exact run_fnS (us := .ref a :: us) (vs := .ref a :: vs) F hr hb (hx σ) I2 (.cons rfl r) q2
theorem pe_methS0' {pl : Sem Bool} (he : PE X o ta) (c : Cls X.K C) (hm : Meth X.K C m f) (F : FnOk X.prog X.w X.K X.mg X.base CX k f fd ps sp) (hr : Room k X.A) (hb : Binds X.K fd ps []) (hx : ∀ σ, PassesAt CX X σ (E σ))
    (ht : eval (.Call (.Attribute o m apos) [] [] pos) X.env = (do
      let ov ← eval o X.env
      standAt apos.atName
      let (f, first) ← holding [ov] (getMethod ov m pl)
      callWith pos f first (backTo pos (starEach [] X.env)) (backToKw pos (keywordEach [] X.env))) := by rfl) :
    PE X (.Call (.Attribute o m apos) [] [] pos) (tMethS' C m sp E ta tNil) := by
  refine ⟨fun pins s σ H Q I h => ?_⟩
  refine PySem.W.methodCall_KW (pl := pl) (thn (he.run pins s σ H _ I h) fun u s1 ⟨x, H1, I1, rx, a, dx, fs, ex, ea, l, q⟩ => ?_) ht
  subst ex
  obtain rfl : u = Value.ref a := rx
  refine getmeth_ok I1 ea c hm l ?_
  exact PySem.W.callWith_K0 (first := [.ref a]) I1.kIn hm.kp (run_fnS (us := [.ref a]) (vs := [.ref a]) F hr hb (hx σ) I1 (.cons rfl .nil) q)
end
/-- what of the text is asked for a field -/
structure FldOk (K : PySem.W.Frag) (c f : Str) : Prop where
  ex : ∃ C, ClsAt K c C ∧ Cls K C ∧ NoAttr K C f
def eFld (c f : Str) (fo : Ex) : Ex := fun ρ => (fo ρ).bind fun x => Res.of ((insD c x).bind (fldD f))
/-- a method that does fn, the instance ahead -/
structure Dm (P : Program) (w : World) (K : PySem.W.Frag) (mg : Str → Option Value) (base : Heap) (c m : Str) (k n : Nat) (fn : List PyData → Res PyData) : Prop where
  ex : ∃ (C f : Addr) (fd : FuncData) (ps : List Str), FnOk P w K mg base (L2.CX P w) k f fd ps (spD K mg n fn) ∧ ClsAt K c C ∧ Cls K C ∧ Meth K C m f ∧ Binds K fd ps []
theorem Dm.mono {P : Program} {w : World} {K : PySem.W.Frag} {mg : Str → Option Value} {base : Heap} {c m : Str} {j k n : Nat} {fn : List PyData → Res PyData} (F : Dm P w K mg base c m j n fn) (h : j ≤ k) : Dm P w K mg base c m k n fn := by
  obtain ⟨C, f, fd, ps, h1, h2⟩ := F.ex
  exact ⟨C, f, fd, ps, h1.mono h, h2⟩
def eMeth (c m : Str) (fn : List PyData → Res PyData) (fo : Ex) (args : Ar) : Ex := fun ρ => (fo ρ).bind fun x => match insD c x with
  | some kvs => if (fldD m kvs).isNone = true then (args ρ).bind fun as => fn (x :: as) else .bad
  | none => .bad
section
variable {X : Cx} {W : WX} {a b e : Expr} {es : List Expr} {fa fb : Ex} {g : Ar} {p pa pos : Pos} {c m f : Str} {k n : Nat} {fn : List PyData → Res PyData}
theorem d_fld (F : FldOk X.K c f) (ha : DE X W a fa) (hb : attributeBase a f X.env (eval a X.env) = eval a X.env := by rfl) : DE X W (.Attribute a f pos) (eFld c f fa) := by
  obtain ⟨C, hC, cl, na⟩ := F.ex
  refine peImp (pe_fld ha hb) fun σ H Q ⟨ρ, hρ, h⟩ => ⟨ρ, hρ, (Post.bind h).imp fun v H1 _ ⟨d, _, s1, rx, h1⟩ => ?_⟩
  cases e1 : insD c d with
  | none => rw [e1] at h1; exact h1.elim
  | some kvs =>
    rw [e1, Option.bind_some] at h1
    obtain ⟨a, dx, C', fs, rfl, rfl, q1, q2, q3⟩ := insD_of rx e1
    have := hC.one q2
    subst this
    cases e2 : fldD f kvs with
    | none => rw [e2] at h1; exact h1.elim
    | some d =>
      rw [e2] at h1
      obtain ⟨v, l, r⟩ := fldD_of q3 e2
      exact ⟨a, C, dx, fs, v, rfl, q1, cl, na, l, h1 v H1 (Same.refl _) r⟩
theorem d_meth {pl : Sem Bool} (F : Dm X.prog X.w X.K X.mg X.base c m k n fn) (hr : Room k X.A) (tk : Takes X W) (ho : DE X W a fa) (ha : DA X W (e :: es) g) (hn : (a :: e :: es).length = n := by rfl)
    (hst : starEach (e :: es) X.env = (false, eval e X.env) :: starEach es X.env := by rfl) (hpl : (backTo pos (starEach es X.env)).any (·.1) = false := by rfl)
    (ht : eval (.Call (.Attribute a m pa) (e :: es) [] pos) X.env = (do
      let ov ← eval a X.env
      standAt pa.atName
      let (f, first) ← holding [ov] (getMethod ov m pl)
      callWith pos f first (backTo pos (starEach (e :: es) X.env)) (backToKw pos (keywordEach [] X.env))) := by rfl) :
    DE X W (.Call (.Attribute a m pa) (e :: es) [] pos) (eMeth c m fn fa g) := by
  obtain ⟨C, f, fd, ps, h1, hC, cl, hm, hb⟩ := F.ex
  have hx : ∀ σ, PassesAt (L2.CX X.prog X.w) X σ (WE W σ) := fun σ => passAt tk σ
  refine peImp (pe_methS' (E := WE W) ho cl hm h1 hr hb hx ha hst hpl ht) fun σ H Q ⟨ρ, hρ, h⟩ => ⟨ρ, hρ, (Post.bind h).imp fun v H1 _ ⟨d, _, s1, rx, h2⟩ => ?_⟩
  cases e1 : insD c d with
  | none => rw [e1] at h2; exact h2.elim
  | some kvs =>
    rw [e1] at h2
    obtain ⟨o, dx, C', fs, rfl, rfl, q1, q2, q3⟩ := insD_of rx e1
    have := hC.one q2
    subst this
    dsimp only at h2
    by_cases hf : (fldD m kvs).isNone = true
    · rw [if_pos hf] at h2
      refine ⟨o, dx, fs, rfl, q1, fldD_none q3 (by simpa using hf), ρ, hρ.mono s1, (PostA.bind h2).imp fun vs H2 _ ⟨ds, _, hl, s2, r2, h3⟩ => ⟨by rw [List.length_cons, hl, ← hn]; rfl, _ :: ds, .cons (dpMono s2 rx) r2, ?_⟩⟩
      revert h3
      cases fn (_ :: ds) <;> exact id
    · rw [if_neg hf] at h2
      exact h2.elim
theorem d_meth0 {pl : Sem Bool} (F : Dm X.prog X.w X.K X.mg X.base c m k n fn) (hr : Room k X.A) (tk : Takes X W) (ho : DE X W a fa) (hn : 1 = n := by rfl)
    (ht : eval (.Call (.Attribute a m pa) [] [] pos) X.env = (do
      let ov ← eval a X.env
      standAt pa.atName
      let (f, first) ← holding [ov] (getMethod ov m pl)
      callWith pos f first (backTo pos (starEach [] X.env)) (backToKw pos (keywordEach [] X.env))) := by rfl) :
    DE X W (.Call (.Attribute a m pa) [] [] pos) (eMeth c m fn fa aNil) := by
  obtain ⟨C, f, fd, ps, h1, hC, cl, hm, hb⟩ := F.ex
  have hx : ∀ σ, PassesAt (L2.CX X.prog X.w) X σ (WE W σ) := fun σ => passAt tk σ
  refine peImp (pe_methS0' (E := WE W) ho cl hm h1 hr hb hx ht) fun σ H Q ⟨ρ, hρ, h⟩ => ⟨ρ, hρ, (Post.bind h).imp fun v H1 _ ⟨d, _, s1, rx, h2⟩ => ?_⟩
  cases e1 : insD c d with
  | none => rw [e1] at h2; exact h2.elim
  | some kvs =>
    rw [e1] at h2
    obtain ⟨o, dx, C', fs, rfl, rfl, q1, q2, q3⟩ := insD_of rx e1
    have := hC.one q2
    subst this
    dsimp only at h2
    by_cases hf : (fldD m kvs).isNone = true
    · rw [if_pos hf] at h2
      refine ⟨o, dx, fs, rfl, q1, fldD_none q3 (by simpa using hf), ?_⟩
      refine ⟨by rw [← hn]; rfl, [_], .cons rx .nil, ?_⟩
      have h3 : Post X.K X.mg W σ H1 Q (fn [.dict (insTag c o :: kvs)]) := h2
      revert h3
      cases fn [.dict (insTag c o :: kvs)] <;> exact id
    · rw [if_neg hf] at h2
      exact h2.elim
end

/-! ### xs == [], xs != [] where the items may be of any kind -/
def oNeNil (x y : PyData) : Option PyData := match x, y with
  | .list xs, .list [] => some (.bool (!xs.isEmpty))
  | _, _ => none
def oEqNil (x y : PyData) : Option PyData := match x, y with
  | .list xs, .list [] => some (.bool xs.isEmpty)
  | _, _ => none
def rNilQ (K : PySem.W.Frag) (f : Bool → Bool) : R2 := fun x y H Q => ∃ l b xs, x = .ref l ∧ y = .ref b ∧ SqL K H l xs ∧ SqL K H b [] ∧ Q (.bl (f xs.isEmpty)) H
theorem op_neNil {X : Cx} (hu : X.A.units < cLine) : OpR X (compareOp .NotEq) (rNilQ X.K not) := by
  intro pins s σ H x y v u Q I rx ry h
  obtain ⟨l, b, xs, rfl, rfl, hl, hb, q⟩ := h
  cases rx
  cases ry
  obtain ⟨its, r, pl, _⟩ := I.list hl
  obtain ⟨its2, r2, pl2, _⟩ := I.list hb
  have e2 : its2 = [] := by
    cases r2
    rfl
  subst e2
  have len := r.length
  cases xs with
  | nil =>
    have e1 : its = [] := by cases r; rfl
    subst e1
    exact PySem.SeqAt.RcNeAt.lists (e := fun _ => true) pl.isList pl2.isList rfl hu (fun j h1 _ => absurd h1 (Nat.not_lt_zero _)) _ _ _ _ ⟨.bl _, H, I, rfl, q⟩
  | cons x xs =>
    have e1 : (its.toArray.size != ([] : List Value).toArray.size) = true := by
      simp only [List.size_toArray, List.length_nil, ← len]
      simp
    exact PySem.SeqAt.RcNeAt.lists_lengths pl.isList pl2.isList e1 hu _ _ _ _ ⟨.bl _, H, I, rfl, q⟩
theorem op_eqNil {X : Cx} (hu : X.A.units < cLine) : OpR X (compareOp .Eq) (rNilQ X.K id) := by
  intro pins s σ H x y v u Q I rx ry h
  obtain ⟨l, b, xs, rfl, rfl, hl, hb, q⟩ := h
  cases rx
  cases ry
  obtain ⟨its, r, pl, _⟩ := I.list hl
  obtain ⟨its2, r2, pl2, _⟩ := I.list hb
  have e2 : its2 = [] := by
    cases r2
    rfl
  subst e2
  have len := r.length
  cases xs with
  | nil =>
    have e1 : its = [] := by cases r; rfl
    subst e1
    exact PySem.SeqAt.RcAt.lists (e := fun _ => true) pl.isList pl2.isList rfl hu (fun j h1 _ => absurd h1 (Nat.not_lt_zero _)) _ _ _ _ ⟨.bl _, H, I, rfl, q⟩
  | cons x xs =>
    have e1 : (its.toArray.size != ([] : List Value).toArray.size) = true := by
      simp only [List.size_toArray, List.length_nil, ← len]
      simp
    exact PySem.SeqAt.RcAt.lists_lengths pl.isList pl2.isList e1 hu _ _ _ _ ⟨.bl _, H, I, rfl, q⟩
theorem isEmpty_dp {K : PySem.W.Frag} {H : Hp} {vs : List V} {ds : List PyData} (h : DpAll K H vs ds) : vs.isEmpty = ds.isEmpty := by cases h <;> rfl
theorem o2_nil {K : PySem.W.Frag} {f : Bool → Bool} {op : PyData → PyData → Option PyData} (hop : ∀ x y d, op x y = some d → ∃ xs, x = .list xs ∧ y = .list [] ∧ d = .bool (f xs.isEmpty)) : Op2 K (rNilQ K f) op := by
  intro x y dx dy d H Q rx ry e q
  obtain ⟨xs, rfl, rfl, rfl⟩ := hop _ _ _ e
  obtain ⟨l, vs, rfl, hl, hv⟩ := dp_lst rx
  obtain ⟨b, us, rfl, hb, hu⟩ := dp_lst ry
  cases hu
  refine ⟨l, b, vs, rfl, rfl, hl, hb, q _ H (Same.refl _) ?_⟩
  rw [isEmpty_dp hv]
  exact .bl _
theorem o2_neNil {K : PySem.W.Frag} : Op2 K (rNilQ K not) oNeNil := o2_nil fun x y d e => by
  cases x <;> cases y <;> try (cases e; done)
  rename_i xs ys
  cases ys with
  | nil => cases e; exact ⟨xs, rfl, rfl, rfl⟩
  | cons _ _ => cases e
theorem o2_eqNil {K : PySem.W.Frag} : Op2 K (rNilQ K id) oEqNil := o2_nil fun x y d e => by
  cases x <;> cases y <;> try (cases e; done)
  rename_i xs ys
  cases ys with
  | nil => cases e; exact ⟨xs, rfl, rfl, rfl⟩
  | cons _ _ => cases e
section
variable {X : Cx} {W : WX} {a b : Expr} {fa fb : Ex} {pos : Pos}
theorem d_neNil (hu : X.A.units + 65 < cLine) (ha : DE X W a fa) (hb : DE X W b fb) : DE X W (.Compare a [.NotEq] [b] pos) (eOp oNeNil fa fb) := d_cmp (op_neNil (by omega)) o2_neNil ha hb (nomark _)
theorem d_eqNil (hu : X.A.units + 65 < cLine) (ha : DE X W a fa) (hb : DE X W b fb) : DE X W (.Compare a [.Eq] [b] pos) (eOp oEqNil fa fb) := d_cmp (op_eqNil (by omega)) o2_eqNil ha hb (nomark _)
theorem t_neNil (hu : X.A.units + 65 < cLine) (ha : DE X W a fa) (hb : DE X W b fb) : DT X W (.Compare a [.NotEq] [b] pos) (eB (eOp oNeNil fa fb)) := dt_cmp (op_neNil (by omega)) o2_neNil ha hb (nomark _)
theorem t_eqNil (hu : X.A.units + 65 < cLine) (ha : DE X W a fa) (hb : DE X W b fb) : DT X W (.Compare a [.Eq] [b] pos) (eB (eOp oEqNil fa fb)) := dt_cmp (op_eqNil (by omega)) o2_eqNil ha hb (nomark _)
end
end L2.DL
set_option maxHeartbeats 2000000
namespace L2.DL
open PySem PySem.Spec PyProof.Rows

/-! ### min of a list of tuples of whole numbers -/
def encTI (ns : List Int) : PyData := .tuple (ns.map .int)
def toTups : List PyData → Option (List (List Int))
  | [] => some []
  | .tuple xs :: r => (toInts xs).bind fun ns => (toTups r).map (ns :: ·)
  | _ :: _ => none
theorem toInts_enc : ∀ {xs : List PyData} {ns : List Int}, toInts xs = some ns → xs = ns.map .int
  | [], ns, h => by cases h; rfl
  | x :: xs, ns, h => by
    cases x with
    | int i =>
      have h : (toInts xs).map (i :: ·) = some ns := h
      cases e : toInts xs with
      | none => rw [e] at h; cases h
      | some q =>
        rw [e] at h
        cases h
        rw [toInts_enc e]
        rfl
    | _ => cases h
theorem toTups_map : ∀ rs : List (List Int), toTups (rs.map encTI) = some rs
  | [] => rfl
  | ns :: r => by
    show (toInts (ns.map PyData.int)).bind (fun ns => (toTups (r.map encTI)).map (ns :: ·)) = _
    rw [toInts_map, toTups_map r]
    rfl
theorem toTups_enc : ∀ {ds : List PyData} {rs : List (List Int)}, toTups ds = some rs → ds = rs.map encTI
  | [], rs, h => by cases h; rfl
  | d :: r, rs, h => by
    cases d with
    | tuple xs =>
      unfold toTups at h
      cases e1 : toInts xs with
      | none => rw [e1] at h; cases h
      | some ns =>
        rw [e1, Option.bind_some] at h
        cases e2 : toTups r with
        | none => rw [e2] at h; cases h
        | some rs' =>
          rw [e2] at h
          cases h
          rw [List.map_cons, toTups_enc e2, toInts_enc e1]
          rfl
    | _ => cases h
/-- the least row, the first of several -/
def minTI (x : List Int) (xs : List (List Int)) : List Int := xs.foldl (fun a y => if PySem.W.dataLt (encTI y) (encTI a) then y else a) x
theorem minD_TI (x : List Int) (xs : List (List Int)) : PySem.W.minD (encTI x) (xs.map encTI) = encTI (minTI x xs) := by
  unfold PySem.W.minD minTI
  induction xs generalizing x with
  | nil => rfl
  | cons y r ih =>
    rw [List.map_cons, List.foldl_cons, List.foldl_cons]
    by_cases h : PySem.W.dataLt (encTI y) (encTI x) = true
    · rw [if_pos h, if_pos h]; exact ih y
    · rw [if_neg h, if_neg h]; exact ih x
def oMinT : PyData → Option PyData
  | .list xs => (toTups xs).bind fun rs => match rs with
    | [] => none
    | r :: rs => some (encTI (minTI r rs))
  | _ => none
def rMinT (K : PySem.W.Frag) : List V → Hp → VK → Prop := fun vs H Q => ∃ (a : Addr) (xs : List V) (r : List Int) (rs : List (List Int)), vs = [V.ref a] ∧ SqL K H a xs ∧ DpAll K H xs ((r :: rs).map encTI) ∧
  ∀ v, Dp K H v (encTI (minTI r rs)) → Q v H
theorem lay_TI (ns : List Int) : (encTI ns).canLay0 = true ∧ (encTI ns).depth ≤ 1 := by
  have : ∀ ns : List Int, PyData.canLayAll0 (ns.map .int) = true ∧ PyData.depthAll (ns.map .int) ≤ 0 := by
    intro ns
    induction ns with
    | nil => exact ⟨rfl, by simp [PyData.depthAll]⟩
    | cons n r ih => simp [PyData.canLayAll0, PyData.depthAll, PyData.canLay0, PyData.depth, ih.1, ih.2]
  refine ⟨by simpa [encTI, PyData.canLay0] using (this ns).1, ?_⟩
  have := (this ns).2
  simp only [encTI, PyData.depth]
  omega
theorem cr_minT {X : Cx} (hc : X.calm = true) (hu : X.A.units + 65 < cLine) : CallR X (.builtin "min") (rMinT X.K) := by
  intro pins s σ H vs us Q I rv h
  obtain ⟨a, xs, r, rs, rfl, hs, hv, q⟩ := h
  obtain ⟨its, r1, pl, hz⟩ := I.list hs
  rw [Vals.ref1 rv]
  have lay : ∀ d ∈ (r :: rs).map encTI, d.canLay0 = true ∧ d.depth ≤ 1 := fun d hd => by
    obtain ⟨ns, _, rfl⟩ := List.mem_map.mp hd
    exact lay_TI ns
  have layA : ∀ {ds : List PyData}, (∀ d ∈ ds, d.canLay0 = true ∧ d.depth ≤ 1) → PyData.canLayAll0 ds = true ∧ PyData.depthAll ds ≤ 1 := by
    intro ds
    induction ds with
    | nil => intro _; exact ⟨rfl, by simp [PyData.depthAll]⟩
    | cons d r ih =>
      intro h
      have h1 := h d List.mem_cons_self
      have h2 := ih fun x hx => h x (List.mem_cons_of_mem _ hx)
      simp only [PyData.canLayAll0, PyData.depthAll, h1.1, h2.1, Bool.and_self, true_and]
      omega
  obtain ⟨l1, l2⟩ := layA lay
  have hold := dpAllOld hv l1
  obtain ⟨as, hr⟩ := L2.Dp.readsAll I _ _ _ hold r1
  have hall : PySem.W.AlikeAll ((r :: rs).map encTI) := by
    refine ⟨fun x hx y hy => ?_, fun x hx => ?_⟩
    · obtain ⟨ns, _, rfl⟩ := List.mem_map.mp hx
      obtain ⟨ms, _, rfl⟩ := List.mem_map.mp hy
      simp [encTI, PySem.W.alike, PySem.W.alike_ints]
    · obtain ⟨ns, _, rfl⟩ := List.mem_map.mp hx
      simp [encTI]
  refine PySem.W.min_list_data (x := encTI r) (xs := rs.map encTI) (I.ok.hd hc) pl.isList (by rw [List.toList_toArray] <;> exact hr) hall (by
    have : PyData.depthAll (encTI r :: rs.map encTI) ≤ 1 := l2
    omega) fun i v h' tk bs hi hR hk => ?_
  rw [minD_TI] at hR
  have I' : Inv X pins σ H { s with heap := h', toks := tk } := I.kept hk
  -- the item's data
  obtain ⟨x, hx, rx⟩ : ∃ x, xs[i]? = some x ∧ RelV x v := by
    have hi' : its[i]? = some v := by simpa using hi
    cases e : xs[i]? with
    | none => rw [r1.none_of e] at hi'; cases hi'
    | some x =>
      obtain ⟨u, hu1, hu2⟩ := r1.get e
      rw [hu1] at hi'
      cases hi'
      exact ⟨x, rfl, hu2⟩
  obtain ⟨d, hd, hdp⟩ := hv.getV hx
  have hl := lay d (List.mem_of_getElem? hd)
  obtain ⟨as2, hr2⟩ := L2.Dp.reads I' d x v (dpOld hdp hl.1) rx
  have := (PySem.Reads.unique hR _ _ hr2).1.symm
  subst this
  exact ⟨x, H, I', rx, q x hdp⟩
theorem o1_minT {K : PySem.W.Frag} : Op1 K (rMinT K) oMinT := by
  intro x dx d H Q rx e q
  cases dx with
  | list ds =>
    obtain ⟨a, vs, rfl, ha, hva⟩ := dp_lst rx
    unfold oMinT at e
    dsimp only at e
    cases e1 : toTups ds with
    | none => rw [e1] at e; cases e
    | some rs =>
      rw [e1, Option.bind_some] at e
      cases rs with
      | nil => cases e
      | cons r rs =>
        cases e
        rw [toTups_enc e1] at hva
        exact ⟨a, vs, r, rs, rfl, ha, hva, fun v hv => q v H (Same.refl _) hv⟩
  | _ => cases e
section
variable {X : Cx} {W : WX} {a : Expr} {fa : Ex} {p pos : Pos}
theorem d_minT (hc : X.calm = true) (hu : X.A.units + 65 < cLine) (hm : X.mg "min" = none) (ha : DE X W a fa) (hg : Gl X "min" := by rfl) (hs : starEach [a] X.env = (false, eval a X.env) :: starEach [] X.env := by rfl) (hpl : (backTo pos (starEach [] X.env)).any (·.1) = false := by rfl) : DE X W (.Call (.Name "min" p) [a] [] pos) (eCall1 oMinT fa) :=
  d_b1 (cr_minT hc hu) o1_minT hm ha hg (hs := hs) (hpl := hpl)
end
end L2.DL
set_option maxHeartbeats 2000000
namespace L2.DL
open PySem PySem.Spec PyProof.Rows
open RZ

/-! ### zip(t, xs), t a tuple, xs a list, the pairs known -/
/-- what stands apart from the zip's own objects stays -/
abbrev ZKeep (z TO p r : Addr) (h h' : Heap) : Prop := ∀ c o, c ≠ z → c ≠ TO → c ≠ p → c ≠ r → h.get? c = some o → h'.get? c = some o
section
variable {prog : Program} {w : World} {A : Around} {E : Value → Shared → Prop} {s : Shared} {z TI TO p r t l : Addr} {k : Nat} {xs ys : Array Value} {a b : Value}
theorem zipTL_item {x y : Value} {Q : Value → Shared → Prop} (D : ZipApart z TI TO p r t l) (hz : IsZip s.heap z TI TO .none) (hI : IsPair s.heap TI (.ref p) (.ref r)) (hO : IsPair s.heap TO a b)
    (hp : s.heap.IsTupleIter p t k) (hr : s.heap.IsListIter r l k) (ht : s.heap.IsTuple t xs) (hl : s.heap.IsList l ys) (hx : xs[k]? = some x) (hy : ys[k]? = some y)
    (hQ : ∀ g, IsZip g z TI TO (rawInt s.heap.objs.size) → IsPair g TO x y → g.IsTupleIter p t (k + 1) → g.IsListIter r l (k + 1) → IsPair g s.heap.objs.size x y → g.objs.size = s.heap.objs.size + 1 → ZKeep z TO p r s.heap g → Q (.ref s.heap.objs.size) { s with heap := g }) :
    wpAny (model prog w) A (Builtin.«zip.__next__» ⟨[.ref z], []⟩) (fun fin s' => ∃ v, fin = .done (.ret v) ∧ Q v s') E s := by
  show wpAny _ _ (field (.ref z) 2 >>= _) _ _ _
  refine wpAny_bind (wpAny_field hz rfl (x := .bool false) rfl ?_)
  show wpAny _ _ (field (.ref z) 3 >>= _) _ _ _
  refine wpAny_bind (wpAny_field hz rfl (x := .ref TI) rfl (wpAny_bind (wpAny_seqItems hI rfl ?_)))
  show wpAny _ _ (Builtin.SmallTypes.ownedTupleIsFree (.ref z) >>= _) _ _ _
  refine wpAny_bind ?_
  unfold Builtin.SmallTypes.ownedTupleIsFree
  refine wpAny_bind (wpAny_field hz rfl (x := .none) rfl (wpAny_pure ?_))
  simp only [if_true]
  refine wpAny_bind (wpAny_rule (wpAny_bind (wpAny_field hz rfl (x := .ref TO) rfl (wpAny_bind (wpAny_setField_rec hz (by simp) fun g1 z1 b1 => ?_)))))
  replace z1 : IsZip g1 z TI TO .ellipsis := z1
  refine wpAny_bind ?_
  simp only [List.zipIdx_cons, List.zipIdx_nil, List.forIn_cons, List.forIn_nil]
  -- the tuple's turn
  refine wpAny_bind (wpAny_bind (wpAny_onRaise ?_))
  show wpAny _ _ (Builtin.SmallTypes.nextOf (.ref p) >>= _) _ _ _
  have e1 := b1.extBut
  refine wpAny_bind (nextOf_tuple_item (hp.extBut e1 D.i1z) (ht.extBut e1 D.l1z) hx fun g2 p2 b2 => wpAny_pure ?_)
  have e2 := b2.extBut
  have O2 : IsPair g2 TO a b := e2 _ _ D.TOi1 (e1 _ _ D.TOz hO)
  refine wpAny_bind (wpAny_seqItems O2 rfl (wpAny_bind (wpAny_updateSeq_pair O2 fun g3 O3 b3 => ?_)))
  replace O3 : IsPair g3 TO x b := O3
  have e3 := b3.extBut
  refine wpAny_bind (wpAny_letGo (wpAny_pure ?_))
  -- the list's turn
  refine wpAny_bind (wpAny_bind (wpAny_onRaise ?_))
  show wpAny _ _ (Builtin.SmallTypes.nextOf (.ref r) >>= _) _ _ _
  have r3 := ((hr.extBut e1 D.i2z).extBut e2 D.i12.symm).extBut e3 D.TOi2.symm
  have l3 := ((hl.extBut e1 D.l2z).extBut e2 D.l2i1).extBut e3 D.l2TO
  refine wpAny_bind (wpAny_nextOf_list_item r3 l3 hy fun g4 r4 b4 => wpAny_pure ?_)
  have e4 := b4.extBut
  have O4 : IsPair g4 TO x b := e4 _ _ D.TOi2 O3
  refine wpAny_bind (wpAny_seqItems O4 rfl (wpAny_bind (wpAny_updateSeq_pair O4 fun g5 O5 b5 => ?_)))
  replace O5 : IsPair g5 TO x y := O5
  have e5 := b5.extBut
  refine wpAny_bind (wpAny_letGo (wpAny_pure (wpAny_pure ?_)))
  refine wpAny_bind (wpAny_seqItems O5 rfl (wpAny_bind (wpAny_newTuple ?_)))
  have size5 : g5.objs.size = s.heap.objs.size := by rw [b5.1, b4.1, b3.1, b2.1, b1.1]
  have z5 : IsZip g5 z TI TO .ellipsis := e5 _ _ D.TOz.symm (e4 _ _ D.i2z.symm (e3 _ _ D.TOz.symm (e2 _ _ D.i1z.symm z1)))
  have k5 : ZKeep z TO p r s.heap g5 := fun c o c1 c2 c3 c4 e => e5 _ _ c2 (e4 _ _ c4 (e3 _ _ c2 (e2 _ _ c3 (e1 _ _ c1 e))))
  have p5 : g5.IsTupleIter p t (k + 1) := ((p2.extBut e3 D.TOi1.symm).extBut e4 D.i12).extBut e5 D.TOi1.symm
  have r5 : g5.IsListIter r l (k + 1) := r4.extBut e5 D.TOi2.symm
  have zlt : z < g5.objs.size := Heap.lt_size z5
  show wpAny _ _ (Builtin.SmallTypes.ownedTupleHandOut (.ref z) (.ref g5.objs.size) >>= _) _ _ _
  refine wpAny_bind ?_
  unfold Builtin.SmallTypes.ownedTupleHandOut
  have z6 : IsZip (g5.push { cls := .type "tuple", data := .seq #[x, y] }) z TI TO .ellipsis := Heap.get?_push_of_some _ z5
  refine wpAny_bind (wpAny_setField_rec z6 (by simp) fun g7 z7 b7 => ?_)
  replace z7 : IsZip g7 z TI TO (rawInt g5.objs.size) := z7
  refine wpAny_setField_rec z7 (by simp) fun g8 z8 b8 => ?_
  replace z8 : IsZip g8 z TI TO (rawInt g5.objs.size) := z8
  have up : ∀ c o, c ≠ z → g5.get? c = some o → g8.get? c = some o := fun c o cz e => b8.extBut _ _ cz (b7.extBut _ _ cz (Heap.get?_push_of_some _ e))
  have new8 : IsPair g8 g5.objs.size x y := b8.extBut _ _ (Nat.ne_of_gt zlt) (b7.extBut _ _ (Nat.ne_of_gt zlt) (Heap.get?_push_size _ rfl))
  have size8 : g8.objs.size = g5.objs.size + 1 := by rw [b8.1, b7.1, Heap.size_push]
  rw [size5] at z8 new8 size8
  refine wpAny_pure ⟨_, rfl, ?_⟩
  show Q (.ref g5.objs.size) _
  rw [size5]
  exact hQ g8 z8 (up _ _ D.TOz O5) (p5.at fun o e => up _ o D.i1z e) (r5.at fun o e => up _ o D.i2z e) new8 size8 fun c o c1 c2 c3 c4 e => up c o c1 (k5 c o c1 c2 c3 c4 e)
theorem zipTL_end {Q : Fin → Shared → Prop} (hh : A.handled = none) (D : ZipApart z TI TO p r t l) (hz : IsZip s.heap z TI TO .none) (hI : IsPair s.heap TI (.ref p) (.ref r)) (hO : IsPair s.heap TO a b)
    (hp : s.heap.IsTupleIter p t k) (hr : s.heap.IsListIter r l k) (ht : s.heap.IsTuple t xs) (hl : s.heap.IsList l ys) (hend : xs[k]? = none ∨ ys[k]? = none)
    (hE : ∀ g e, ZKeep z TO p r s.heap g → (∃ o, g.get? e = some o ∧ o.cls = .type "StopIteration") → E (.ref e) { s with heap := g }) :
    wpAny (model prog w) A (Builtin.«zip.__next__» ⟨[.ref z], []⟩) Q E s := by
  show wpAny _ _ (field (.ref z) 2 >>= _) _ _ _
  refine wpAny_bind (wpAny_field hz rfl (x := .bool false) rfl ?_)
  show wpAny _ _ (field (.ref z) 3 >>= _) _ _ _
  refine wpAny_bind (wpAny_field hz rfl (x := .ref TI) rfl (wpAny_bind (wpAny_seqItems hI rfl ?_)))
  show wpAny _ _ (Builtin.SmallTypes.ownedTupleIsFree (.ref z) >>= _) _ _ _
  refine wpAny_bind ?_
  unfold Builtin.SmallTypes.ownedTupleIsFree
  refine wpAny_bind (wpAny_field hz rfl (x := .none) rfl (wpAny_pure ?_))
  simp only [if_true]
  refine wpAny_bind (wpAny_rule (wpAny_bind (wpAny_field hz rfl (x := .ref TO) rfl (wpAny_bind (wpAny_setField_rec hz (by simp) fun g1 z1 b1 => ?_)))))
  replace z1 : IsZip g1 z TI TO .ellipsis := z1
  refine wpAny_bind ?_
  simp only [List.zipIdx_cons, List.zipIdx_nil, List.forIn_cons, List.forIn_nil]
  refine wpAny_bind (wpAny_bind (wpAny_onRaise ?_))
  show wpAny _ _ (Builtin.SmallTypes.nextOf (.ref p) >>= _) _ _ _
  have e1 := b1.extBut
  cases hx : xs[k]? with
  | none =>
    refine wpAny_bind (nextOf_tuple_end hh (hp.extBut e1 D.i1z) (ht.extBut e1 D.l1z) hx fun g2 e e2 he => ?_)
    obtain ⟨oe, hoe, hce⟩ := he
    have z2 : IsZip g2 z TI TO .ellipsis := e2 _ _ D.i1z.symm z1
    have ne : e ≠ z := fun q => by
      subst q
      rw [z2] at hoe
      cases hoe
      simp at hce
    exact wpAny_setField_rec z2 (by simp) fun g3 _ b3 => hE g3 e (fun c o c1 _ c3 _ q => b3.extBut _ _ c1 (e2 _ _ c3 (e1 _ _ c1 q))) ⟨oe, b3.extBut _ _ ne hoe, hce⟩
  | some x =>
    have hy : ys[k]? = none := by
      rcases hend with h | h
      · rw [hx] at h; cases h
      · exact h
    refine wpAny_bind (nextOf_tuple_item (hp.extBut e1 D.i1z) (ht.extBut e1 D.l1z) hx fun g2 p2 b2 => wpAny_pure ?_)
    have e2 := b2.extBut
    have O2 : IsPair g2 TO a b := e2 _ _ D.TOi1 (e1 _ _ D.TOz hO)
    refine wpAny_bind (wpAny_seqItems O2 rfl (wpAny_bind (wpAny_updateSeq_pair O2 fun g3 O3 b3 => ?_)))
    have e3 := b3.extBut
    refine wpAny_bind (wpAny_letGo (wpAny_pure (wpAny_bind (wpAny_bind (wpAny_onRaise ?_)))))
    show wpAny _ _ (Builtin.SmallTypes.nextOf (.ref r) >>= _) _ _ _
    have r3 := ((hr.extBut e1 D.i2z).extBut e2 D.i12.symm).extBut e3 D.TOi2.symm
    have l3 := ((hl.extBut e1 D.l2z).extBut e2 D.l2i1).extBut e3 D.l2TO
    refine wpAny_bind (wpAny_nextOf_list_end hh r3 l3 hy fun g4 e e4 he => ?_)
    obtain ⟨oe, hoe, hce⟩ := he
    have z4 : IsZip g4 z TI TO .ellipsis := e4 _ _ D.i2z.symm (e3 _ _ D.TOz.symm (e2 _ _ D.i1z.symm z1))
    have ne : e ≠ z := fun q => by
      subst q
      rw [z4] at hoe
      cases hoe
      simp at hce
    exact wpAny_setField_rec z4 (by simp) fun g5 _ b5 => hE g5 e (fun c o c1 c2 c3 c4 q => b5.extBut _ _ c1 (e4 _ _ c4 (e3 _ _ c2 (e2 _ _ c3 (e1 _ _ c1 q))))) ⟨oe, b5.extBut _ _ ne hoe, hce⟩
end
/-- the objects of a new zip -/
def zmH1 (h : Heap) (t : Addr) : Heap := h.push { cls := .type "tuple_iterator", data := .fields #[.ref t, .int 0 0] }
def zmH2 (h : Heap) (t l : Addr) : Heap := (zmH1 h t).push { cls := .type "list_iterator", data := .fields #[.ref l, .int 0 0] }
def zmH3 (h : Heap) (t l : Addr) : Heap := (zmH2 h t l).push { cls := .type "tuple", data := .seq #[.ref h.objs.size, .ref (zmH1 h t).objs.size] }
def zmH4 (h : Heap) (t l : Addr) : Heap := (zmH3 h t l).push { cls := .type "tuple", data := .seq #[.none, .none] }
def zmH5 (h : Heap) (t l : Addr) : Heap := (zmH4 h t l).push { cls := .type "zip", data := .fields #[.none, .bool false, .bool false, .ref (zmH2 h t l).objs.size, .ref (zmH3 h t l).objs.size] }
theorem zipTL_new (t l : Addr) (xs ys : Array Value) :
    Meets (Builtin.«zip.__new__» ⟨[.type "zip", .ref t, .ref l], []⟩) (fun _ R s => s.heap.IsTuple t xs ∧ s.heap.IsList l ys ∧ R (.ok (.ret (.ref (zmH4 s.heap t l).objs.size))) { s with heap := zmH5 s.heap t l }) :=
  .of_wp fun prog w A R s h => by
    obtain ⟨hp, g, d, tk, os⟩ := s
    obtain ⟨h1, h2, h⟩ := h
    have hsub := sub_zip
    have t1 : Heap.IsTuple (Shared.heap ⟨hp, g, d, tk, os⟩) t xs := h1
    have l1 : Heap.IsList (Shared.heap ⟨hp.push { cls := .type "tuple_iterator", data := .fields #[.ref t, .int 0 0] }, g, d, tk, os⟩) l ys := Heap.IsList.push h2 _
    wp_walk using wpAny_pyIter_tuple t1, wpAny_pyIter_list l1
    exact ⟨_, rfl, h⟩
section
variable {prog : Program} {w : World} {A : Around} {E : Value → Shared → Prop} {s : Shared}
theorem zipTL_call {t l : Addr} {xs ys : Array Value} {Q : Value → Shared → Prop} (ht : s.heap.IsTuple t xs) (hl : s.heap.IsList l ys)
    (h : ∀ g n, n = s.heap.objs.size → IsZip g (n + 4) (n + 2) (n + 3) .none → IsPair g (n + 2) (.ref n) (.ref (n + 1)) → IsPair g (n + 3) .none .none → g.IsTupleIter n t 0 → g.IsListIter (n + 1) l 0 →
      (∀ c o, s.heap.get? c = some o → g.get? c = some o) → Q (.ref (n + 4)) { s with heap := g }) :
    wpAny (model prog w) A (call (.type "zip") [.ref t, .ref l]) Q E s := by
  refine callType_new F.called_zip (by decide) (F.typeCall_zip_2 _ _) (F.newCall_zip_2 _ _) (fun obj => F.args_object_init_3 obj _ _) F.entry_zip_new (zipTL_new t l xs ys) ⟨ht, hl, ?_⟩
  have n1 : (zmH1 s.heap t).objs.size = s.heap.objs.size + 1 := Heap.size_push ..
  have n2 : (zmH2 s.heap t l).objs.size = s.heap.objs.size + 2 := by unfold zmH2; rw [Heap.size_push, n1]
  have n3 : (zmH3 s.heap t l).objs.size = s.heap.objs.size + 3 := by unfold zmH3; rw [Heap.size_push, n2]
  have n4 : (zmH4 s.heap t l).objs.size = s.heap.objs.size + 4 := by unfold zmH4; rw [Heap.size_push, n3]
  have q5 : (zmH5 s.heap t l).get? (zmH4 s.heap t l).objs.size = some _ := Heap.get?_push_size _ rfl
  have q4 : (zmH5 s.heap t l).get? (zmH3 s.heap t l).objs.size = some _ := Heap.get?_push_of_some _ (Heap.get?_push_size _ rfl)
  have q3 : (zmH5 s.heap t l).get? (zmH2 s.heap t l).objs.size = some _ := Heap.get?_push_of_some _ (Heap.get?_push_of_some _ (Heap.get?_push_size _ rfl))
  have q2 : (zmH5 s.heap t l).get? (zmH1 s.heap t).objs.size = some _ := Heap.get?_push_of_some _ (Heap.get?_push_of_some _ (Heap.get?_push_of_some _ (Heap.get?_push_size _ rfl)))
  have q1 : (zmH5 s.heap t l).get? s.heap.objs.size = some _ := Heap.get?_push_of_some _ (Heap.get?_push_of_some _ (Heap.get?_push_of_some _ (Heap.get?_push_of_some _ (Heap.get?_push_size _ rfl))))
  have keep : ∀ c o, s.heap.get? c = some o → (zmH5 s.heap t l).get? c = some o := fun c o x =>
    Heap.get?_push_of_some _ (Heap.get?_push_of_some _ (Heap.get?_push_of_some _ (Heap.get?_push_of_some _ (Heap.get?_push_of_some _ x))))
  show _ ∧ _
  rw [n2, n3, n4] at q5
  rw [n1, n2] at q3
  rw [n3] at q4
  rw [n1] at q2
  rw [n4]
  exact ⟨⟨_, q5, rfl⟩, h _ _ rfl q5 q3 q4 ⟨_, q1, rfl, rfl⟩ ⟨_, q2, rfl, rfl⟩ keep⟩
end
/-- the tuple at a, the list at b as they stand at each turn -/
def ItzM (K : PySem.W.Frag) (a b : Addr) : It :=
  ⟨fun i H => ∃ (xs ys : List V) (x y : V), SqT K H a xs ∧ SqL K H b ys ∧ xs[i]? = some x ∧ ys[i]? = some y,
    fun i H v H' => ∃ (T : Addr) (ob : Obj) (x y : V), ob.dict = none ∧ v = .ref T ∧ H T = none ∧ H' = upd H T (.frz ob (.tup [x, y])) ∧ (∀ xs, SqT K H a xs → xs[i]? = some x) ∧ ∀ ys, SqL K H b ys → ys[i]? = some y,
    fun i H => ∃ xs ys : List V, SqT K H a xs ∧ SqL K H b ys ∧ (xs.length ≤ i ∨ ys.length ≤ i)⟩
theorem turn_zipM {P : Program} {w : World} {K : PySem.W.Frag} {elts : List Expr} {kk : Nat} {tpos : Pos} {a b z TI TO i1 i2 : Addr} (D : ZipApart z TI TO i1 i2 a b) :
    Turn P w K (.Tuple elts kk tpos) (ItzM K a b) [z, TI, TO, i1, i2] z (fun i h => IsZip h z TI TO .none ∧ IsPair h TI (.ref i1) (.ref i2) ∧ (∃ x y, IsPair h TO x y) ∧ h.IsTupleIter i1 a i ∧ h.IsListIter i2 b i) where
  mem := by simp
  obj := fun i h st c hc => by
    obtain ⟨q1, q2, ⟨x, y, q3⟩, ⟨o1, g1, _, d1⟩, ⟨o2, g2, _, d2⟩⟩ := st
    simp only [List.mem_cons, List.not_mem_nil, or_false] at hc
    rcases hc with rfl | rfl | rfl | rfl | rfl
    · exact ⟨_, q1, fun v q => nomatch q⟩
    · exact ⟨_, q2, fun v q => nomatch q⟩
    · exact ⟨_, q3, fun v q => nomatch q⟩
    · exact ⟨o1, g1, fun v q => by rw [d1] at q; cases q⟩
    · exact ⟨o2, g2, fun v q => by rw [d2] at q; cases q⟩
  keep := fun i h h' st k => by
    obtain ⟨q1, q2, ⟨x, y, q3⟩, q4, q5⟩ := st
    exact ⟨k z (by simp) _ q1, k TI (by simp) _ q2, ⟨x, y, k TO (by simp) _ q3⟩, q4.at fun o q => k i1 (by simp) o q, q5.at fun o q => k i2 (by simp) o q⟩
  item := by
    intro X hP hw hK hc i pins s σ H E I hf st hg
    subst hP hw hK
    obtain ⟨hz, hTI, ⟨x0, y0, hTO⟩, h1, h2⟩ := st
    obtain ⟨xs, ys, x, y, hqx, hqy, hx, hy⟩ := hg
    obtain ⟨its, rv, p, _⟩ := I.tuple hqx
    obtain ⟨its2, rv2, p2, _⟩ := I.list hqy
    obtain ⟨u, hu, ru⟩ := rv.get hx
    obtain ⟨u2, hu2, ru2⟩ := rv2.get hy
    have zl : z < s.heap.objs.size := Heap.lt_size hz
    have hT : s.TypeIs (.ref z) "zip" := ⟨_, hz, rfl⟩
    unfold pyNext
    refine wpAny_bind (wpAny_attempt (wpAny_callSpecial?_slot (name := Str.ofString "__next__") hT F.slot_zip_next (wpAny_call_entry F.slot_zip_next hT F.entry_zip_next
      (zipTL_item D hz hTI hTO h1 h2 p p2.isList (x := u) (y := u2) (by simpa using hu) (by simpa using hu2) fun g z' TO' h1' h2' hT hsz hk => wpAny_pure ?_) (F.args_zip_next_1 _))))
    refine ⟨_, rfl, wpAny_letOwnedTupleGo_zip (s := { s with heap := g }) z' fun g' z'' sb => ?_⟩
    have hT2 : g'.get? s.heap.objs.size = some { cls := .type "tuple", data := .seq #[u, u2] } := (sb.2 _ (Nat.ne_of_gt zl)).trans hT
    have new : ObjOk X.prog X.w (upd H s.heap.objs.size (.frz { cls := .type "tuple", data := .seq #[u, u2] } (.tup [x, y]))) g' s.heap.objs.size (.frz { cls := .type "tuple", data := .seq #[u, u2] } (.tup [x, y])) :=
      ⟨hT2, by show 2 ≤ sizeLine; decide, [u, u2], .cons ru (.cons ru2 .nil), ⟨_, hT2, rfl, _, rfl⟩⟩
    have nin : ∀ {c : Addr}, c ∉ [z, TI, TO, i1, i2] → c ≠ z ∧ c ≠ TO ∧ c ≠ i1 ∧ c ≠ i2 := fun {c} h => by
      simp only [List.mem_cons, List.not_mem_nil, or_false, not_or] at h
      exact ⟨h.1, h.2.2.1, h.2.2.2.1, h.2.2.2.2⟩
    have I1 := I.turnedNew (t' := s.toks) (ch := [z, TI, TO, i1, i2]) (fun c o hb q => (sb.2 c (nin hb).1).trans (hk c o (nin hb).1 (nin hb).2.1 (nin hb).2.2.1 (nin hb).2.2.2 q)) hf (Nat.le_refl _) new
    refine ⟨.ref s.heap.objs.size, _, I1, rfl, ⟨_, _, x, y, rfl, rfl, I.hok.fresh (Nat.le_refl _), rfl, fun zs hzs => by rw [I.tuple_inj hzs hqx]; exact hx, fun zs hzs => by rw [I.list_inj hzs hqy]; exact hy⟩, ⟨z'', ?_, ⟨u, u2, ?_⟩, ?_, ?_⟩, fun c hcm => ?_⟩
    · exact (sb.2 _ D.TIz).trans (hk _ _ D.TIz D.TITO D.TIi1 D.TIi2 hTI)
    · exact (sb.2 _ D.TOz).trans TO'
    · exact h1'.at fun o q => (sb.2 _ D.i1z).trans q
    · exact h2'.at fun o q => (sb.2 _ D.i2z).trans q
    · have : c < s.heap.objs.size := by
        simp only [List.mem_cons, List.not_mem_nil, or_false] at hcm
        rcases hcm with rfl | rfl | rfl | rfl | rfl
        · exact zl
        · exact Heap.lt_size hTI
        · exact Heap.lt_size hTO
        · obtain ⟨_, q, _⟩ := h1; exact Heap.lt_size q
        · obtain ⟨_, q, _⟩ := h2; exact Heap.lt_size q
      rw [upd_ne (Nat.ne_of_lt this)]
      exact (hf c hcm).1
  done := by
    intro X hP hw hK hc i pins s σ H E I hf st hg
    subst hP hw hK
    obtain ⟨hz, hTI, ⟨x0, y0, hTO⟩, h1, h2⟩ := st
    obtain ⟨xs, ys, hqx, hqy, hend⟩ := hg
    obtain ⟨its, rv, p, _⟩ := I.tuple hqx
    obtain ⟨its2, rv2, p2, _⟩ := I.list hqy
    have n1 := rv.length
    have n2 := rv2.length
    have he : its.toArray[i]? = none ∨ its2.toArray[i]? = none := by
      rcases hend with q | q
      · exact .inl (by simp; omega)
      · exact .inr (by simp; omega)
    have hT : s.TypeIs (.ref z) "zip" := ⟨_, hz, rfl⟩
    unfold pyNext
    refine wpAny_bind (wpAny_attempt (wpAny_callSpecial?_slot (name := Str.ofString "__next__") hT F.slot_zip_next (wpAny_call_entry F.slot_zip_next hT F.entry_zip_next
      (zipTL_end (I.ok.hd hc) D hz hTI hTO h1 h2 p p2.isList he fun g e hk hce => ?_) (F.args_zip_next_1 _))))
    obtain ⟨o, ho, hco⟩ := hce
    refine wpAny_bind (wpAny_isInstance (T := "StopIteration") (b := true) ⟨o, ho, hco⟩ isSubtype_stop (wpAny_pure ⟨rfl, ?_⟩))
    exact I.turnedL (t' := s.toks) (ch := [z, TI, TO, i1, i2]) (fun c o hb q => by
      simp only [List.mem_cons, List.not_mem_nil, or_false, not_or] at hb
      exact hk c o hb.1 hb.2.2.1 hb.2.2.2.1 hb.2.2.2.2 q) hf
  self := fun A i s Q E st h => wpAny_pyIter_zip st.1 h
def iZipM (K : PySem.W.Frag) (ta : TA) : TI := fun σ H R => ta σ H fun vs H1 => ∃ a b xs ys, vs = [.ref a, .ref b] ∧ SqT K H1 a xs ∧ SqL K H1 b ys ∧ R (ItzM K a b) H1
theorem pi_zipM {X : Cx} {e e2 : Expr} {ta : TA} {p pos tpos : Pos} {elts : List Expr} {kk : Nat} (hg : Gl X "zip") (hm : X.mg "zip" = none) (ha : PA X [e, e2] ta)
    (hs : starEach [e, e2] X.env = (false, eval e X.env) :: starEach [e2] X.env := by rfl) (hpl : (backTo pos (starEach [e2] X.env)).any (·.1) = false := by rfl) :
    PI X (.Tuple elts kk tpos) (.Call (.Name "zip" p) [e, e2] [] pos) (iZipM X.K ta) := by
  constructor
  intro pins s σ H R I h
  refine Call_ (ld_blt I hg hm PyProof.Rows.boot_zip (PyProof.Rows.callWith_type1 (thn (ha.run pos pins s σ H _ I h) fun us s1 ⟨vs, H1, I1, r1, a, b, xs, ys, ex, hqx, hqy, q⟩ => ?_) hs hpl))
  subst ex
  cases r1 with
  | cons r rr =>
    cases rr with
    | cons r' rr =>
      cases rr
      cases r
      cases r'
      obtain ⟨its, rv, p1, _⟩ := I1.tuple hqx
      obtain ⟨its2, rv2, p2, _⟩ := I1.list hqy
      obtain ⟨o1, ho1, _⟩ := id p1
      refine zipTL_call p1 p2.isList fun g n hn hz hTI hTO h1 h2 hk => wpAny_pyIter_zip hz ?_
      have I2 : Inv X pins σ H1 { s1 with heap := g } := I1.kept (t' := s1.toks) hk
      have la : a < n := by rw [hn]; exact Heap.lt_size ho1
      have lb : b < n := by rw [hn]; exact p2.lt
      refine ⟨n + 4, [n + 4, n + 2, n + 3, n, n + 1], _, _, H1, rfl, I2, turn_zipM (PySem.W.ktu_apart n a b la lb), ⟨hz, hTI, ⟨_, _, hTO⟩, h1, h2⟩, fun c hcm => ?_, q⟩
      have hle : s1.heap.objs.size ≤ c := by
        rw [← hn]
        simp only [List.mem_cons, List.not_mem_nil, or_false] at hcm
        rcases hcm with rfl | rfl | rfl | rfl | rfl
        · exact Nat.le_add_right _ _
        · exact Nat.le_add_right _ _
        · exact Nat.le_add_right _ _
        · exact Nat.le_refl _
        · exact Nat.le_add_right _ _
      exact I1.fpOk hle (I1.hok.fresh hle)
def asT : PyData → Res (List PyData)
  | .tuple xs => .ok xs
  | _ => .bad
def itZipTL (f g : Ex) : Itr' := fun ρ => (f ρ).bind fun x => (g ρ).bind fun y => (asT x).bind fun xs => (asL y).bind fun ys => .ok (zipD xs ys)
@[simp] theorem itZipTL_ap (f g : Ex) (ρ : Env) : itZipTL f g ρ = (f ρ).bind fun x => (g ρ).bind fun y => (asT x).bind fun xs => (asL y).bind fun ys => .ok (zipD xs ys) := rfl
@[simp] theorem asT_tuple (xs : List PyData) : asT (.tuple xs) = .ok xs := rfl
section
variable {X : Cx} {W : WX} {a b : Expr} {fa fb : Ex} {p pos tpos : Pos} {elts : List Expr} {kk : Nat}
theorem i_zip (hm : X.mg "zip" = none) (ha : DE X W a fa) (hb : DE X W b fb) (hg : Gl X "zip" := by rfl) (hs : starEach [a, b] X.env = (false, eval a X.env) :: starEach [b] X.env := by rfl) (hs2 : starEach [b] X.env = (false, eval b X.env) :: starEach [] X.env := by rfl) (hpl : (backTo pos (starEach [b] X.env)).any (·.1) = false := by rfl) :
    DI X W (.Tuple elts kk tpos) (.Call (.Name "zip" p) [a, b] [] pos) (itZipTL fa fb) := by
  refine piImp (pi_zipM hg hm (pa_cons ha (pa_cons hb pa_nil hs2) hs) hs hpl) fun σ H Q ⟨ρ, hρ, h⟩ => ⟨ρ, hρ, (Post.bindI h).imp fun v H1 _ ⟨d, _, s1, rx, h1⟩ => ⟨ρ, hρ.mono s1, (Post.bindI h1).imp fun u H2 _ ⟨e, _, s2, ry, h2⟩ => ?_⟩⟩
  cases d with
  | tuple xs =>
    cases e with
    | list ys =>
      obtain ⟨q, vs, rfl, hs, hv⟩ := dp_tup (dpMono s2 rx)
      obtain ⟨q', us, rfl, hs', hu⟩ := dp_lst ry
      refine ⟨q, q', vs, us, rfl, hs, hs', h2 _ H2 (Same.refl _) ⟨fun i H3 hi s3 => ?_, fun H3 s3 => ?_, fun i H3 x H4 hi s3 hy => ?_⟩⟩
      · rw [zipD_length] at hi
        have i1 : i < vs.length := by rw [hv.len]; omega
        have i2 : i < us.length := by rw [hu.len]; omega
        exact ⟨vs, us, vs[i], us[i], Same.sqt s3 hs, s3.seq hs', List.getElem?_eq_getElem i1, List.getElem?_eq_getElem i2⟩
      · refine ⟨vs, us, Same.sqt s3 hs, s3.seq hs', ?_⟩
        rw [hv.len, hu.len, zipD_length]
        omega
      · obtain ⟨T, ob, x1, y1, hdn, rfl, hT, rfl, k1, k2⟩ := hy
        have g1 := k1 _ (Same.sqt s3 hs)
        have g2 := k2 _ (s3.seq hs')
        obtain ⟨d1, e1, r1⟩ := hv.getV g1
        obtain ⟨d2, e2, r2⟩ := hu.getV g2
        exact ⟨_, zipD_get e1 e2, .inr ⟨T, ob, [x1, y1], [d1, d2], hdn, hT, rfl, rfl, .cons r1 (.cons r2 .nil), rfl⟩⟩
    | _ => exact h2.elim
  | list xs => cases e <;> exact h2.elim
  | _ => exact h2.elim
end
end L2.DL
set_option maxHeartbeats 2000000
namespace L2.DL
open PySem PySem.Spec PyProof.Rows
open AutoSeq1 (wpAny_loadPart')

/-! ### enumerate(tuple) -/
theorem meets_enumerate_newT (l : Addr) (items : Array Value) (n : Nat) (dct : Option Addr) (sl : Array (Option Value)) :
    Meets (Builtin.«enumerate.__new__» ⟨[.type "enumerate", .ref l], []⟩) (fun _ R s => s.heap.get? l = some { cls := .type "tuple", dict := dct, data := .seq items n, slots := sl } ∧
      R (.ok (.ret (.ref (s.heap.push { cls := .type "tuple_iterator", data := .fields #[.ref l, .int 0 0] }).objs.size)))
        { s with heap := (s.heap.push { cls := .type "tuple_iterator", data := .fields #[.ref l, .int 0 0] }).push { cls := .type "enumerate", data := .fields #[.none, .bool false, .ref s.heap.objs.size, rawInt 0, .none, .none] } }) :=
  .of_wp fun prog w A R s h => by
    obtain ⟨hp, g, d, tk, os⟩ := s; obtain ⟨hl, h⟩ := h
    have hsub := sub_enumerate
    have hL : Heap.IsTuple (Shared.heap ⟨hp, g, d, tk, os⟩) l items := ⟨_, hl, rfl, n, rfl⟩
    wp_walk using wpAny_loadPart' hl
    refine wpAny_stack_any fun st => wpAny_pure ?_
    split
    · rename_i c _ _ _ _ _
      cases (c == Value.type "enumerate")
      · wp_walk using wpAny_loadPart' hl, wpAny_pyIter_tuple hL
        exact ⟨_, rfl, h⟩
      · wp_walk using wpAny_loadPart' hl, wpAny_pyIter_tuple hL
        exact ⟨_, rfl, h⟩
    · wp_walk using wpAny_loadPart' hl, wpAny_pyIter_tuple hL
      exact ⟨_, rfl, h⟩
theorem call_enumerate_tuple {prog : Program} {w : World} {A : Around} {E : Value → Shared → Prop} {s : Shared} {l : Addr} {items : Array Value} {Q : Value → Shared → Prop} (hL : s.heap.IsTuple l items)
    (h : ∀ h', IsEnum h' (s.heap.objs.size + 1) s.heap.objs.size 0 .none → h'.IsTupleIter s.heap.objs.size l 0 → h'.objs.size = s.heap.objs.size + 2 →
      (∀ b o, s.heap.get? b = some o → h'.get? b = some o) → Q (.ref (s.heap.objs.size + 1)) { s with heap := h' }) :
    wpAny (model prog w) A (call (.type "enumerate") [.ref l]) Q E s := by
  obtain ⟨⟨c, dct, dt, sl⟩, hl, hc, n, hd⟩ := hL
  replace hc : c = .type "tuple" := hc
  replace hd : dt = .seq items n := hd
  subst hc hd
  refine callType_new F.called_enumerate (by decide) (F.typeCall_enumerate_1 _) (F.newCall_enumerate_1 _) (fun obj => F.args_object_init_2 obj _) F.entry_enumerate_new
    (meets_enumerate_newT l items n dct sl) ⟨hl, ?_⟩
  have hz : (s.heap.push { cls := .type "tuple_iterator", data := .fields #[.ref l, .int 0 0] }).objs.size = s.heap.objs.size + 1 := Heap.size_push ..
  show _ ∧ _
  rw [hz]
  have he : IsEnum ((s.heap.push { cls := .type "tuple_iterator", data := .fields #[.ref l, .int 0 0] }).push
      { cls := .type "enumerate", data := .fields #[.none, .bool false, .ref s.heap.objs.size, rawInt 0, .none, .none] }) (s.heap.objs.size + 1) s.heap.objs.size 0 .none := by
    have := Heap.get?_push_size (s.heap.push { cls := .type "tuple_iterator", data := .fields #[.ref l, .int 0 0] })
      (o := { cls := .type "enumerate", data := .fields #[.none, .bool false, .ref s.heap.objs.size, rawInt 0, .none, .none] }) rfl
    rw [hz] at this; exact this
  refine ⟨⟨_, he, rfl⟩, h _ he ⟨_, Heap.get?_push_of_some _ (Heap.get?_push_size _ rfl), rfl, rfl⟩ (by rw [Heap.size_push, hz]) fun b o x => Heap.get?_push_of_some _ (Heap.get?_push_of_some _ x)⟩
def IteT (K : PySem.W.Frag) (a : Addr) : It :=
  ⟨fun i H => ∃ (xs : List V) (x : V), SqT K H a xs ∧ xs[i]? = some x, fun i H v H' => ∃ (T : Addr) (ob : Obj) (x : V), ob.dict = none ∧ v = .ref T ∧ H T = none ∧ H' = upd H T (.frz ob (.tup [.int (i : Nat), x])) ∧ ∀ xs, SqT K H a xs → xs[i]? = some x, fun i H => ∃ xs : List V, SqT K H a xs ∧ xs.length ≤ i⟩
theorem turn_enumT {P : Program} {w : World} {K : PySem.W.Frag} {elts : List Expr} {kk : Nat} {tpos : Pos} (a e it : Addr) (hae : e ≠ a) (hai : a ≠ it) :
    Turn P w K (.Tuple elts kk tpos) (IteT K a) [e, it] e (fun i h => (∃ old, IsEnum h e it ((i : Nat) : Int) old) ∧ h.IsTupleIter it a i ∧ e ≠ it) where
  mem := by simp
  obj := fun i h st b hb => by
    obtain ⟨⟨old, he⟩, ⟨o, ho, hc, hd⟩, _⟩ := st
    have e' : b = e ∨ b = it := by simpa using hb
    rcases e' with z | z
    · rw [z]; exact ⟨_, he, fun v q => nomatch q⟩
    · rw [z]; exact ⟨o, ho, fun v q => by rw [hd] at q; cases q⟩
  keep := fun i h h' st k => let ⟨⟨old, he⟩, hi, hne⟩ := st; ⟨⟨old, k e (by simp) _ he⟩, hi.at fun o q => k it (by simp) o q, hne⟩
  item := by
    intro X h1 h2 h3 hc i pins s σ H E J hf st hg
    subst h1 h2 h3
    obtain ⟨⟨o0, e0⟩, t0, ne⟩ := st
    obtain ⟨xs, x, hq, hx⟩ := hg
    obtain ⟨ys, yv, yp, _⟩ := J.tuple hq
    obtain ⟨u, uy, ux⟩ := yv.get hx
    have le : e < s.heap.objs.size := Heap.lt_size e0
    have lt : it < s.heap.objs.size := by obtain ⟨_, z, _⟩ := t0; exact Heap.lt_size z
    have yT : s.heap.IsTuple a ys.toArray := yp
    have hi : i < ys.toArray.size := by
      have := (List.getElem?_eq_some_iff.mp uy).1
      simpa using this
    have D := Draws.tuple (prog := X.prog) (w := X.w) (A := X.A.in1) (J.ok.hd hc) it a hai ys.toArray
    refine wpAny_pyNext_enum_itemD D e0 ⟨t0, yT⟩ hi ne (by simp [ne, hae]) fun x' g1 tk hx' go gi gT gz gk => ⟨_, rfl, wpAny_letOwnedTupleGo_enum (s := { s with heap := g1, toks := tk + 1 }) go fun g2 ge gs => ?_⟩
    have ex : x' = u := by
      have : ys.toArray[i]? = some u := by simpa using uy
      rw [this] at hx'
      exact (Option.some.inj hx').symm
    subst ex
    have new2 : g2.get? s.heap.objs.size = some { cls := .type "tuple", data := .seq #[.int i tk, x'] } := (gs.2 _ (Nat.ne_of_gt le)).trans gT
    have ok2 : ObjOk X.prog X.w (upd H s.heap.objs.size (.frz { cls := .type "tuple", data := .seq #[.int i tk, x'] } (.tup [.int (i : Nat), x]))) g2 s.heap.objs.size (.frz { cls := .type "tuple", data := .seq #[.int i tk, x'] } (.tup [.int (i : Nat), x])) :=
      ⟨new2, by show 2 ≤ sizeLine; decide, [.int i tk, x'], .cons ⟨_, rfl⟩ (.cons ux .nil), _, new2, rfl, _, rfl⟩
    have J2 := J.turnedNew (t' := tk + 1) (ch := [e, it]) (fun b o hb q => (gs.2 b (fun z => hb (by simp [z]))).trans (gk b o (fun z => hb (by simp [z])) (fun z => hb (by simp [z])) q)) hf (Nat.le_refl _) ok2
    refine ⟨.ref s.heap.objs.size, _, J2, rfl, ⟨_, _, x, rfl, rfl, J.hok.fresh (Nat.le_refl _), rfl, fun zs hz => by rw [J.tuple_inj hz hq]; exact hx⟩, ⟨⟨x', ?_⟩, gi.1.at fun o q => (gs.2 it (Ne.symm ne)).trans q, ne⟩, fun b hb => ?_⟩
    · rw [show ((i + 1 : Nat) : Int) = (i : Int) + 1 by omega]; exact ge
    · have : b < s.heap.objs.size := by
        rcases (by simpa using hb : b = e ∨ b = it) with z | z <;> rw [z] <;> assumption
      rw [upd_ne (Nat.ne_of_lt this)]
      exact (hf b hb).1
  done := by
    intro X hP hw hK hc i pins s σ H E I hf st hg
    subst hP hw hK
    obtain ⟨⟨old, he⟩, hit, hne⟩ := st
    obtain ⟨xs, hq, hx⟩ := hg
    obtain ⟨its, rv, p, hz⟩ := I.tuple hq
    have pT : s.heap.IsTuple a its.toArray := p
    obtain ⟨f0, f1, f2, f3, f4, f5⟩ := hf it (by simp)
    have hl := rv.length
    unfold pyNext
    have hT : s.TypeIs (.ref e) "enumerate" := ⟨_, he, rfl⟩
    refine wpAny_bind (wpAny_attempt (wpAny_callSpecial?_slot (name := Str.ofString "__next__") hT F.slot_enumerate_next
      (wpAny_call_entry F.slot_enumerate_next hT F.entry_enumerate_next ?_ (F.args_enumerate_next_1 _))))
    show wpAny _ _ (field (.ref e) 2 >>= _) _ _ _
    refine wpAny_bind (wpAny_field he rfl (x := .ref it) rfl ?_)
    refine wpAny_bind (wpAny_nextOf_tuple_end (I.ok.hd hc) hit pT (by simp; omega) fun h' x' he' hx' => ?_)
    obtain ⟨o, ho, hc'⟩ := hx'
    refine wpAny_bind (wpAny_isInstance (T := "StopIteration") (b := true) ⟨o, ho, hc'⟩ isSubtype_stop ?_)
    exact wpAny_pure ⟨rfl, I.turned (t' := s.toks) (fun b o hb q => he' b o hb q) f0 f1 f3 f4 f5⟩
  self := fun A i s Q E st h => let ⟨⟨_, he⟩, _⟩ := st; wpAny_pyIter_enum he h
def iEnumT (K : PySem.W.Frag) (ta : TA) : TI := fun σ H R => ta σ H fun vs H1 => ∃ a xs, vs = [.ref a] ∧ SqT K H1 a xs ∧ R (IteT K a) H1
theorem pi_enumT {X : Cx} {e : Expr} {ta : TA} {p pos tpos : Pos} {elts : List Expr} {kk : Nat} (hg : Gl X "enumerate") (hm : X.mg "enumerate" = none) (ha : PA X [e] ta) (hs : starEach [e] X.env = [(false, eval e X.env)] := by rfl) :
    PI X (.Tuple elts kk tpos) (.Call (.Name "enumerate" p) [e] [] pos) (iEnumT X.K ta) := by
  constructor
  intro pins s σ H R J h
  refine Call_ (ld_blt J hg hm boot_enumerate (PyProof.Rows.callWith_type1 (thn (ha.run pos pins s σ H _ J h) fun us s1 ⟨vs, H1, J1, r1, a, xs, ex, hq, q⟩ => ?_) hs rfl))
  subst ex
  cases r1 with
  | cons r rr =>
    cases rr
    cases r
    obtain ⟨ys, yv, yp, _⟩ := J1.tuple hq
    have yT : s1.heap.IsTuple a ys.toArray := yp
    have hlt : a < s1.heap.objs.size := by obtain ⟨o, ho, _⟩ := yT; exact Heap.lt_size ho
    refine call_enumerate_tuple yT fun g ge gi _ gk => wpAny_pyIter_enum ge ⟨s1.heap.objs.size + 1, [s1.heap.objs.size + 1, s1.heap.objs.size], _, _, H1, rfl, J1.kept (t' := s1.toks) gk, turn_enumT a (s1.heap.objs.size + 1) s1.heap.objs.size (Nat.ne_of_gt (Nat.lt_succ_of_lt hlt)) (Nat.ne_of_lt hlt), ⟨⟨.none, ge⟩, gi, Nat.succ_ne_self _⟩, fun b hb => ?_, q⟩
    have : s1.heap.objs.size ≤ b := by
      rcases (by simpa using hb : b = s1.heap.objs.size + 1 ∨ b = s1.heap.objs.size) with z | z <;> rw [z] <;> omega
    exact J1.fpOk this (J1.hok.fresh this)
def itEnumT (f : Ex) : Itr' := fun ρ => (f ρ).bind fun x => (asT x).bind fun ds => .ok (enumFrom 0 ds)
@[simp] theorem itEnumT_ap (f : Ex) (ρ : Env) : itEnumT f ρ = (f ρ).bind fun x => (asT x).bind fun ds => .ok (enumFrom 0 ds) := rfl
section
variable {X : Cx} {W : WX} {a b : Expr} {fa fb : Ex} {p pos tpos : Pos} {elts : List Expr} {kk : Nat}
theorem i_enumT (hm : X.mg "enumerate" = none) (h : DE X W a fa) (hg : Gl X "enumerate" := by rfl) (hs : starEach [a] X.env = [(false, eval a X.env)] := by rfl) (hs' : starEach [a] X.env = (false, eval a X.env) :: starEach [] X.env := by rfl) :
    DI X W (.Tuple elts kk tpos) (.Call (.Name "enumerate" p) [a] [] pos) (itEnumT fa) := by
  refine piImp (pi_enumT hg hm (pa_cons h pa_nil hs') hs) fun σ H Q ⟨ρ, hρ, h⟩ => ⟨ρ, hρ, (Post.bindI h).imp fun v H1 _ ⟨d, _, s1, rx, h1⟩ => ?_⟩
  cases d with
  | tuple ds =>
    obtain ⟨q, vs, rfl, hsP, hv⟩ := dp_tupP rx
    have hs := hsP.sqt
    refine ⟨q, vs, rfl, hs, h1 _ H1 (Same.refl _) ⟨fun i H hi s => ?_, fun H s => ?_, fun i H x H' hi s y => ?_⟩⟩
    · rw [enumFrom_length] at hi
      have hl : i < vs.length := by rw [hv.len]; exact hi
      exact ⟨vs, vs[i], Same.sqt s hs, by simp [hl]⟩
    · refine ⟨vs, Same.sqt s hs, ?_⟩
      rw [enumFrom_length, hv.len]
      exact Nat.le_refl _
    · obtain ⟨T, ob, z, y1, y2, y3, y4, y5⟩ := y
      obtain ⟨d, e1, e2⟩ := hv.getV (y5 vs (Same.sqt s hs))
      refine ⟨_, enumFrom_get (i := 0) e1, .inr ⟨T, ob, _, _, y1, y3, y2, y4, .cons ?_ (.cons e2 .nil), rfl⟩⟩
      rw [Nat.zero_add]
      exact .int _
  | _ => exact h1.elim
end
end L2.DL
set_option maxHeartbeats 2000000
namespace L2.DL
open PySem PySem.Spec PyProof.Rows

/-! ### dicts whose keys are whole numbers -/
instance decInt (k : PyData) (i : Int) : Decidable (k = .int i) := match k with
  | .int j => if h : j = i then .isTrue (by rw [h]) else .isFalse fun z => h (PyData.int.inj z)
  | .none => .isFalse fun z => by cases z
  | .bool _ => .isFalse fun z => by cases z
  | .str _ => .isFalse fun z => by cases z
  | .list _ => .isFalse fun z => by cases z
  | .tuple _ => .isFalse fun z => by cases z
  | .dict _ => .isFalse fun z => by cases z
def dgetI (i : Int) : List (PyData × PyData) → Option PyData
  | [] => none
  | (k, d) :: r => if k = .int i then some d else dgetI i r
def dputI (i : Int) (v : PyData) (ds : List (PyData × PyData)) : List (PyData × PyData) :=
  if (dgetI i ds).isSome = true then ds.map fun p => if p.1 = .int i then (p.1, v) else p else ds ++ [(.int i, v)]
def ddropI (i : Int) (ds : List (PyData × PyData)) : List (PyData × PyData) := ds.filter fun p => decide (p.1 ≠ .int i)
theorem dget_snoc (i j : Int) (v : PyData) : ∀ ds, dgetI i ds = none → dgetI j (ds ++ [(.int i, v)]) = if j = i then some v else dgetI j ds
  | [], _ => by
    show (if PyData.int i = .int j then some v else none) = _
    by_cases h : j = i
    · rw [if_pos h, h, if_pos rfl]
    · rw [if_neg h, if_neg (fun z => h (PyData.int.inj z).symm)]
      rfl
  | (k, d) :: r, h => by
    unfold dgetI at h
    by_cases hk : k = .int i
    · rw [if_pos hk] at h; cases h
    · rw [if_neg hk] at h
      have ih := dget_snoc i j v r h
      show (if k = .int j then some d else dgetI j (r ++ [(.int i, v)])) = _
      rw [ih]
      show _ = if j = i then some v else if k = .int j then some d else dgetI j r
      by_cases hj : j = i
      · subst hj
        rw [if_neg hk, if_pos rfl]
        simp
      · simp [hj]
theorem dget_map (i j : Int) (v : PyData) : ∀ ds, dgetI j (ds.map fun p => if p.1 = .int i then (p.1, v) else p) = (dgetI j ds).map fun x => if j = i then v else x
  | [] => rfl
  | (k, d) :: r => by
    have ih := dget_map i j v r
    rw [List.map_cons]
    by_cases hk : k = .int i
    · subst hk
      by_cases hj : j = i
      · subst hj
        simp [dgetI]
      · have : ¬ (PyData.int i = .int j) := fun z => hj (PyData.int.inj z).symm
        dsimp only
        rw [if_pos rfl]
        unfold dgetI
        rw [if_neg this, if_neg this, ih]
    · dsimp only
      rw [if_neg hk]
      unfold dgetI
      by_cases hj : k = .int j
      · have hji : ¬ j = i := fun z => hk (by rw [hj, z])
        rw [if_pos hj, if_pos hj]
        simp [hji]
      · rw [if_neg hj, if_neg hj, ih]
theorem dget_put (i j : Int) (v : PyData) (ds : List (PyData × PyData)) : dgetI j (dputI i v ds) = if j = i then some v else dgetI j ds := by
  unfold dputI
  cases h : dgetI i ds with
  | none => rw [if_neg (by simp)]; exact dget_snoc i j v ds h
  | some d =>
    rw [if_pos (by simp), dget_map]
    by_cases hj : j = i
    · subst hj; rw [h]; simp
    · simp [hj]
theorem dget_drop (i j : Int) : ∀ ds, dgetI j (ddropI i ds) = if j = i then none else dgetI j ds
  | [] => by unfold ddropI; simp [dgetI]
  | (k, d) :: r => by
    have ih := dget_drop i j r
    unfold ddropI at ih ⊢
    rw [List.filter_cons]
    by_cases hk : k = .int i
    · subst hk
      rw [if_neg (by simp), ih]
      by_cases hj : j = i
      · rw [if_pos hj, if_pos hj]
      · have : ¬ (PyData.int i = .int j) := fun z => hj (PyData.int.inj z).symm
        rw [if_neg hj, if_neg hj]
        conv => rhs; unfold dgetI
        rw [if_neg this]
    · rw [if_pos (by simpa using hk)]
      unfold dgetI
      rw [ih]
      by_cases hj : j = i
      · subst hj; simp [hk]
      · simp [hj]
section
variable {K : PySem.W.Frag} {H : Hp}
theorem keyD_int {k : Key} {i : Int} : keyD k = .int i ↔ k = .inl i := by
  cases k with
  | inl j => simp [keyD]
  | inr x => simp [keyD]
theorem dget_of : ∀ {kvs : List (Key × V)} {ds : List (PyData × PyData)}, DpK K H kvs ds → ∀ i : Int, (dgetI i ds = none ∧ valV kvs (.inl i) = none) ∨ ∃ d v, dgetI i ds = some d ∧ valV kvs (.inl i) = some v ∧ Dp K H v d
  | _, _, .nil, i => .inl ⟨rfl, rfl⟩
  | _, _, .cons (k := k) (v := v) (d := d) (vs := vs) (ds := ds) h t, i => by
    unfold dgetI
    by_cases hk : k = .inl i
    · right
      exact ⟨d, v, if_pos (keyD_int.mpr hk), valV_pos (p := (k, v)) (r := vs) hk, h⟩
    · rw [if_neg (fun z => hk (keyD_int.mp z)), valV_neg (p := (k, v)) (r := vs) hk]
      exact dget_of t i
theorem dpk_len : ∀ {kvs : List (Key × V)} {ds : List (PyData × PyData)}, DpK K H kvs ds → kvs.length = ds.length
  | _, _, .nil => rfl
  | _, _, .cons _ t => congrArg (· + 1) (dpk_len t)
theorem dpk_snoc {k : Key} {v : V} {d : PyData} (h : Dp K H v d) : ∀ {kvs : List (Key × V)} {ds : List (PyData × PyData)}, DpK K H kvs ds → DpK K H (kvs ++ [(k, v)]) (ds ++ [(keyD k, d)])
  | _, _, .nil => .cons h .nil
  | _, _, .cons a t => .cons a (dpk_snoc h t)
theorem dpk_map {i : Int} {v : V} {d : PyData} (h : Dp K H v d) : ∀ {kvs : List (Key × V)} {ds : List (PyData × PyData)}, DpK K H kvs ds → DpK K H (kvs.map fun kv => if kv.1 = .inl i then (kv.1, v) else kv) (ds.map fun p => if p.1 = .int i then (p.1, d) else p)
  | _, _, .nil => .nil
  | _, _, .cons (k := k) a t => by
    rw [List.map_cons, List.map_cons]
    by_cases hk : k = .inl i
    · dsimp only
      rw [if_pos hk, if_pos (keyD_int.mpr hk)]
      exact .cons h (dpk_map h t)
    · dsimp only
      rw [if_neg hk, if_neg (fun z => hk (keyD_int.mp z))]
      exact .cons a (dpk_map h t)
theorem dpk_put {i : Int} {v : V} {d : PyData} {kvs : List (Key × V)} {ds : List (PyData × PyData)} (r : DpK K H kvs ds) (h : Dp K H v d) : DpK K H (putK kvs (.inl i) v) (dputI i d ds) := by
  unfold putK dputI
  rw [valV_any]
  rcases dget_of r i with ⟨h1, h2⟩ | ⟨d', v', h1, h2, _⟩
  · rw [h1, h2]
    exact dpk_snoc h r
  · rw [h1, h2]
    exact dpk_map h r
theorem dpk_drop {i : Int} : ∀ {kvs : List (Key × V)} {ds : List (PyData × PyData)}, DpK K H kvs ds → DpK K H (dropK kvs (.inl i)) (ddropI i ds)
  | _, _, .nil => .nil
  | _, _, .cons (k := k) a t => by
    unfold dropK ddropI
    rw [List.filter_cons, List.filter_cons]
    by_cases hk : k = .inl i
    · rw [if_neg (by simpa using hk), if_neg (by simpa using keyD_int.mpr hk)]
      exact dpk_drop t
    · rw [if_pos (by simpa using hk), if_pos (by simpa using fun z => hk (keyD_int.mp z))]
      exact .cons a (dpk_drop t)
/-- plain dicts: no instances -/
def plainDc : List (PyData × PyData) → Bool
  | (.none, _) :: _ => false
  | _ => true
theorem dp_dc {v : V} {ds : List (PyData × PyData)} (h : Dp K H v (.dict ds)) (hp : plainDc ds = true) : ∃ a kvs, v = .ref a ∧ Rd H a (.dK kvs) ∧ DpK K H kvs ds := by
  cases h with
  | dic h1 h2 => exact ⟨_, _, rfl, h1, h2⟩
  | ins _ _ _ => cases hp
end
/-- d[i] -/
def oDix : PyData → PyData → Option PyData
  | .dict ds, .int i => if plainDc ds = true then dgetI i ds else none
  | _, _ => none
/-- d.get(i, x) -/
def eDget2 (fa fk fx : Ex) : Ex := fun ρ => (fa ρ).bind fun d => match d with
  | .dict ds => if plainDc ds = true then (fk ρ).bind fun k => match k with
    | .int i => (fx ρ).bind fun x => .ok ((dgetI i ds).getD x)
    | _ => .bad
    else .bad
  | _ => .bad
/-- i in d -/
def oDin : PyData → PyData → Option PyData
  | .int i, .dict ds => if plainDc ds = true then some (.bool (dgetI i ds).isSome) else none
  | .none, .dict ds => if plainDc ds = true then some (.bool false) else none
  | _, _ => none
def oDnin (x y : PyData) : Option PyData := (oDin x y).bind fun d => match d with
  | .bool b => some (.bool (!b))
  | _ => none
@[simp] theorem oDix_ap (ds : List (PyData × PyData)) (i : Int) : oDix (.dict ds) (.int i) = if plainDc ds = true then dgetI i ds else none := rfl
@[simp] theorem oDin_int (ds : List (PyData × PyData)) (i : Int) : oDin (.int i) (.dict ds) = if plainDc ds = true then some (.bool (dgetI i ds).isSome) else none := rfl
@[simp] theorem oDin_non (ds : List (PyData × PyData)) : oDin .none (.dict ds) = if plainDc ds = true then some (.bool false) else none := rfl
section
variable {X : Cx} {W : WX} {a b e k x o : Expr} {fa fb fk fx : Ex} {p pos apos cpos : Pos}
theorem nosl_of (hs : PlainIx k := by exact fun _ _ => rfl) : NoSl k := hs
theorem d_dix (hu : X.A.units + 65 < cLine) (ha : DE X W a fa) (hk : DE X W k fk) (hs : NoSl k := by exact fun _ _ => rfl) : DE X W (.Subscript a k pos) (eOp oDix fa fk) := by
  refine peImp (pe_dget (by omega) ha hk hs) fun σ H Q ⟨ρ, hρ, h⟩ => ⟨ρ, hρ, (Post.bind h).imp fun v H1 _ ⟨d, _, s1, rx, h1⟩ => ⟨ρ, hρ.mono s1, (Post.bind h1).imp fun u H2 _ ⟨z, _, s2, ry, h2⟩ => ?_⟩⟩
  cases d with
  | dict ds =>
    cases z with
    | int i =>
      have h2 : Post X.K X.mg W σ H2 Q (Res.of (if plainDc ds = true then dgetI i ds else none)) := h2
      by_cases hp : plainDc ds = true
      · rw [if_pos hp] at h2
        obtain ⟨q, kvs, rfl, hr, hv⟩ := dp_dc (dpMono s2 rx) hp
        rcases dget_of hv i with ⟨g1, g2⟩ | ⟨d', v', g1, g2, g3⟩
        · rw [g1] at h2; exact h2.elim
        · rw [g1] at h2
          exact ⟨q, v', rfl, .inl ⟨kvs, .inl i, hr, dp_int ry, g2.symm⟩, h2 _ H2 (Same.refl _) g3⟩
      · rw [if_neg hp] at h2
        exact h2.elim
    | _ => exact h2.elim
  | _ => cases z <;> exact h2.elim
theorem d_dget2 (hu : X.A.units + 65 < cLine) (ha : DE X W a fa) (hk : DE X W k fk) (hx : DE X W x fx) (hb : attributeBase a "get" X.env (eval a X.env) = eval a X.env := by rfl)
    (hf : ((backTo cpos (starEach [k, x] X.env)).all (fun x => !x.1) && (backToKw cpos (keywordEach [] X.env)).all (fun x => x.1.isSome) && decide (([k, x] : List Expr).length + ([] : List Keyword).length + (if ([] : List Keyword).isEmpty then 0 else 1) < 30)) = true := by rfl)
    (hl : (apos.endLine == cpos.line) = true := by rfl) (ht : backTo cpos (starEach [k, x] X.env) = [(false, eval k X.env), (false, eval x X.env)] := by rfl) :
    DE X W (.Call (.Attribute a "get" apos) [k, x] [] cpos) (eDget2 fa fk fx) := by
  refine peImp (pe_dget2 (by omega) ha hk hx ⟨hb, hf, hl, ht⟩) fun σ H Q ⟨ρ, hρ, h⟩ => ⟨ρ, hρ, (Post.bind h).imp fun v H1 _ ⟨d, _, s1, rx, h1⟩ => ?_⟩
  cases d with
  | dict ds =>
    dsimp only at h1
    by_cases hp : plainDc ds = true
    · rw [if_pos hp] at h1
      obtain ⟨q, kvs, rfl, hr, hv⟩ := dp_dc rx hp
      refine ⟨q, rfl, .inl ⟨kvs, hr⟩, ρ, hρ.mono s1, (Post.bind h1).imp fun u H2 _ ⟨z, _, s2, ry, h2⟩ => ?_⟩
      cases z with
      | int i =>
        dsimp only at h2
        refine ⟨ρ, (hρ.mono s1).mono s2, (Post.bind h2).imp fun w H3 _ ⟨y, _, s3, rz, h3⟩ => ?_⟩
        have hv3 := dpKMono s3 (dpKMono s2 hv)
        refine ⟨valV kvs (.inl i), .inl ⟨kvs, .inl i, Same.rd s3 (Same.rd s2 hr), dp_int ry, rfl⟩, ?_⟩
        rcases dget_of hv3 i with ⟨g1, g2⟩ | ⟨d', v', g1, g2, g3⟩
        · rw [g1] at h3
          rw [g2]
          exact h3 _ H3 (Same.refl _) rz
        · rw [g1] at h3
          rw [g2]
          exact h3 _ H3 (Same.refl _) g3
      | _ => exact h2.elim
    · rw [if_neg hp] at h1
      exact h1.elim
  | _ => exact h1.elim
end
/-! ### x = {}, x[k] = e, x.pop(k), x a dict of the frame's own -/
def newDS (M : List Nat) (i : Nat) : Sf := fun ρ => if i < ρ.length then .nx (ρ.set i (some (.dict []))) else .bad
@[simp] theorem newDS_ap (M : List Nat) (i : Nat) (ρ : Env) : newDS M i ρ = if i < ρ.length then .nx (ρ.set i (some (.dict []))) else .bad := rfl
def ownK (i : Nat) (ρ : Env) : Res (List (PyData × PyData)) := match ρ[i]? with
  | some (some (.dict ds)) => .ok ds
  | _ => .bad
@[simp] theorem ownK_zero (ds : List (PyData × PyData)) (r : Env) : ownK 0 (some (.dict ds) :: r) = .ok ds := rfl
@[simp] theorem ownK_succ (i : Nat) (x : Option PyData) (r : Env) : ownK (i + 1) (x :: r) = ownK i r := by simp [ownK]
def fstK (i : Nat) (f : Sf) : Sf := fun ρ => match ownK i ρ with
  | .ok _ => f ρ
  | _ => .bad
def dputS (M : List Nat) (i : Nat) (k e : Ex) : Sf := fstK i fun ρ => match e ρ with
  | .ok d => (match k ρ with
    | .ok (.int z) => (match ownK i ρ with
      | .ok ds => if ds.length < 16777216 then .nx (ρ.set i (some (.dict (dputI z d ds)))) else .bad
      | _ => .bad)
    | .err c => .err c ρ
    | _ => .bad)
  | .err c => .err c (wipeD ρ M)
  | .bad => .bad
def dpopS (i : Nat) (k : Ex) : Sf := fstK i fun ρ => match k ρ with
  | .ok (.int z) => (match ownK i ρ with
    | .ok ds => if (dgetI z ds).isSome = true then .nx (ρ.set i (some (.dict (ddropI z ds)))) else .bad
    | _ => .bad)
  | .err c => .err c ρ
  | _ => .bad
@[simp] theorem dputS_ap (M : List Nat) (i : Nat) (k e : Ex) (ρ : Env) : dputS M i k e ρ = (ownK i ρ).toS' fun _ => (e ρ).toS (wipeD ρ M) fun d => (k ρ).toS ρ fun z => (asI z).toS' fun z => (ownK i ρ).toS' fun ds => if ds.length < 16777216 then .nx (ρ.set i (some (.dict (dputI z d ds)))) else .bad := by
  unfold dputS fstK
  dsimp only
  cases ownK i ρ with
  | ok ds =>
    dsimp only [Res.toS']
    cases e ρ with
    | ok d =>
      dsimp only [Res.toS]
      cases k ρ with
      | ok z => cases z <;> rfl
      | err c => rfl
      | bad => rfl
    | err c => rfl
    | bad => rfl
  | err c => rfl
  | bad => rfl
@[simp] theorem dpopS_ap (i : Nat) (k : Ex) (ρ : Env) : dpopS i k ρ = (ownK i ρ).toS' fun _ => (k ρ).toS ρ fun z => (asI z).toS' fun z => (ownK i ρ).toS' fun ds => if (dgetI z ds).isSome = true then .nx (ρ.set i (some (.dict (ddropI z ds)))) else .bad := by
  unfold dpopS fstK
  dsimp only
  cases ownK i ρ with
  | ok ds =>
    dsimp only [Res.toS']
    cases k ρ with
    | ok z => cases z <;> rfl
    | err c => rfl
    | bad => rfl
  | err c => rfl
  | bad => rfl
section
variable {K : PySem.W.Frag} {mg : Str → Option Value} {W : WX} {G G' H H' : Hp} {o : Ow} {σ : St} {ρ : Env} {M M' Lb : List Nat} {D : Ends}
theorem SRep.ownKAt {i : Nat} {a : Addr} {ds : List (PyData × PyData)} (R : SRep K G o H σ ρ) (h : (i, a) ∈ o) (e : ownK i ρ = .ok ds) : ∃ kvs, ρ[i]? = some (some (.dict ds)) ∧ σ[i]? = some (some (.ref a)) ∧ H a = some (.dK kvs) ∧ DpK K (cut (AD o) H) kvs ds := by
  obtain ⟨d, h1, h2, h3⟩ := R.own i a h
  unfold ownK at e
  rw [h1] at e
  cases h3 with
  | lst _ _ => cases e
  | dic h3 h4 =>
    cases e
    exact ⟨_, h1, h2, h3, h4⟩
theorem SRep.fstK {i : Nat} {a : Addr} {f : Sf} (R : SRep K G o H σ ρ) (h : (i, a) ∈ o) (q : SPost K mg W G' M' Lb D (fstK i f ρ)) : (∃ ds kvs, ρ[i]? = some (some (.dict ds)) ∧ σ[i]? = some (some (.ref a)) ∧ H a = some (.dK kvs) ∧ DpK K (cut (AD o) H) kvs ds) ∧ SPost K mg W G' M' Lb D (f ρ) := by
  unfold DL.fstK at q
  cases e : ownK i ρ with
  | ok ds =>
    rw [e] at q
    exact ⟨⟨ds, R.ownKAt h e⟩, q⟩
  | err c => rw [e] at q; exact q.elim
  | bad => rw [e] at q; exact q.elim
end
theorem own_newO {K : PySem.W.Frag} {G H : Hp} {o : Ow} {σ : St} {ρ : Env} {i : Nat} {a : Addr} {u : HO} {dd : PyData} (R : SRep K G o H σ ρ) (hi : i ∉ ID o) (hl : i < ρ.length) (ha : H a = none) (naA : a ∉ AD o) (hv : OwnD K (cut (AD o) H) (upd H a u) a dd) :
    SRep K G ((i, a) :: o) (upd H a u) (σ.set i (some (.ref a))) (ρ.set i (some dd)) := by
  have ec : cut (AD ((i, a) :: o)) (upd H a u) = cut (AD o) H := by
    funext b
    unfold cut
    by_cases h1 : b = a
    · subst h1
      have z : b ∈ AD ((i, b) :: o) := List.mem_cons_self
      rw [if_pos z]
      by_cases h2 : b ∈ AD o
      · exact absurd h2 naA
      · rw [if_neg h2]; exact ha.symm
    · by_cases h2 : b ∈ AD o
      · rw [if_pos h2, if_pos (show b ∈ AD ((i, a) :: o) from List.mem_cons_of_mem _ h2)]
      · rw [if_neg h2, if_neg (show b ∉ AD ((i, a) :: o) from fun z => (List.mem_cons.mp z).elim h1 h2), upd_ne h1]
  refine ⟨by rw [List.length_set, List.length_set, R.len], fun j d hj hn => ?_, fun j b hj => ?_, List.nodup_cons.mpr ⟨naA, R.nda⟩, List.nodup_cons.mpr ⟨hi, R.ndi⟩, by rw [ec]; exact R.base⟩
  · have hij : i ≠ j := fun z => hn (by rw [← z]; exact List.mem_cons_self)
    rw [List.getElem?_set_ne hij] at hj
    rw [List.getElem?_set_ne hij, ec]
    exact R.get j d hj fun z => hn (List.mem_cons_of_mem _ z)
  · rw [ec]
    rcases List.mem_cons.mp hj with z | z
    · cases z
      exact ⟨_, List.getElem?_set_self hl, List.getElem?_set_self (by rw [← R.len]; exact hl), hv⟩
    · obtain ⟨e, h1, h2, h3⟩ := R.own j b z
      have hij : i ≠ j := fun q => hi (by rw [q]; exact List.mem_map.mpr ⟨(j, b), z, rfl⟩)
      have hba : b ≠ a := fun q => naA (by rw [← q]; exact List.mem_map.mpr ⟨(j, b), z, rfl⟩)
      exact ⟨e, by rw [List.getElem?_set_ne hij]; exact h1, by rw [List.getElem?_set_ne hij]; exact h2, h3.mono (upd_ne hba) (Same.refl _)⟩
section
variable {X : Cx} {W : WX} {M M' M1 M2 Lb : List Nat} {e k : Expr} {fe fk : Ex} {pos px pa pc ps dp : Pos} {x : Str}
theorem s_newD (i : Nat) (hN : X.N.Nodup) (hi : X.N[i]? = some x := by rfl) (hx : Loc X.env.scope x := by first | exact Or.inl rfl | exact Or.inr rfl) (hiM : i ∉ M := by decide)
    (hs : swapsWith (.Dict [] [] dp) (some (.Name x px)) pos.line X.env = pure false := by rfl) (hf : X.fn x = true ∨ X.env.scope.names.lookup x = some .local := by first | exact .inl rfl | exact .inr rfl | assumption) : DS X W M (i :: M) Lb (.Assign [.Name x px] (.Dict [] [] dp) pos) (newDS M i) := by
  refine psImp (ps_set hN hi hx (pe_frame pe_dnewK) hs hf) fun D σ H hh => ?_
  obtain ⟨G, o, ρ, hm, R, q⟩ := hh
  refine ⟨AD o, R.lsts, ?_⟩
  unfold newDS at q
  by_cases hl : i < ρ.length
  rotate_left
  · rw [if_neg hl] at q; exact q.elim
  rw [if_pos hl] at q
  intro a na n
  have naA : a ∉ AD o := fun z => by
    have := n a z
    rw [upd_same] at this
    cases this
  have n' : ∀ b ∈ AD o, (cut (AD o) H) b = none := fun b hb => cut_in hb
  obtain ⟨R', ec⟩ := R.glued (Same.refl _) n'
  have eg : glue (AD o) H (upd (cut (AD o) H) a (.dK [])) = upd (glue (AD o) H (cut (AD o) H)) a (.dK []) := by
    funext b
    unfold glue upd
    by_cases h1 : b ∈ AD o
    · have : b ≠ a := fun z => naA (by rw [← z]; exact h1)
      simp [h1, this]
    · simp [h1]
  have hga : glue (AD o) H (cut (AD o) H) a = none := by rw [glue_out naA]; exact na
  rw [eg]
  exact q _ _ ((i, a) :: o) (by show i :: ID o = _; rw [hm]) (own_newO R' (by rw [hm]; exact hiM) hl hga naA (.dic upd_same .nil))
theorem s_dput (hu : X.A.units + 65 < cLine) (i : Nat) (h : SE X W M e fe) (hk : DE X W k fk) (hi : X.N[i]? = some x := by rfl) (hv : Vis X.env.scope x := by first | exact Or.inl rfl | exact Or.inr (Or.inl rfl) | exact Or.inr (Or.inr rfl)) (hiM : i ∈ M := by decide) (hd : (x == ("__debug__" : Str)) = false := by decide) (hcd : (x == ("__classdict__" : Str)) = false := by decide)
    (hs : swapsWith e (some (.Subscript (.Name x px) k ps)) pos.line X.env = pure false := by rfl) :
    DS X W M M Lb (.Assign [.Subscript (.Name x px) k ps] e pos) (dputS M i fk fe) := by
  refine psImp (ps_dput (by omega) (pe_var hi hv hd hcd) hk h hs) fun D σ H ⟨G, o, ρ, hm, R, q⟩ => ⟨G, o, ρ, hm, R, ?_⟩
  obtain ⟨a, ha⟩ := mem_id (by rw [hm]; exact hiM)
  unfold dputS at q
  obtain ⟨_, q⟩ := R.fstK ha q
  cases e1 : fe ρ with
  | ok d =>
    rw [e1] at q
    intro v H' R' r
    dsimp only at q
    obtain ⟨dd0, g1, g2, g3⟩ := R'.own i a ha
    refine ⟨.ref a, g2, ρ, R'.full, ?_⟩
    cases e2 : fk ρ with
    | ok z =>
      rw [e2] at q
      intro kv H2 s2 rk
      cases z with
      | int z =>
        dsimp only at q
        cases e3 : ownK i ρ with
        | ok ds =>
          rw [e3] at q
          dsimp only at q
          have R2 := R'.mono s2
          obtain ⟨kvs, k1, k2, k3, k4⟩ := R2.ownKAt ha e3
          by_cases hl : ds.length < 16777216
          · rw [if_pos hl] at q
            refine ⟨a, _, rfl, .inl ⟨kvs, .inl z, k3, dp_int rk, by rw [dpk_len k4, sizeLine_eq]; exact hl, rfl⟩, q σ _ o hm (R2.putO ha (.dic upd_same (dpk_put k4 (dpMono (cutMono s2) r))))⟩
          · rw [if_neg hl] at q; exact q.elim
        | err c => rw [e3] at q; exact q.elim
        | bad => rw [e3] at q; exact q.elim
      | _ => exact q.elim
    | err c =>
      rw [e2] at q
      obtain ⟨C, h1, h2⟩ := q
      exact ⟨C, h1, fun d H2 s => h2 σ H2 d (R'.same.trans s) (R'.full.mono s)⟩
    | bad => rw [e2] at q; exact q.elim
  | err c =>
    rw [e1] at q
    obtain ⟨C, h1, h2⟩ := q
    exact ⟨C, h1, fun H' d s r => h2 σ H' d s (by rw [← hm]; exact r)⟩
  | bad => rw [e1] at q; exact q.elim
theorem s_dpop (i : Nat) (hk : DE X W k fk) (hi : X.N[i]? = some x := by rfl) (hv : Vis X.env.scope x := by first | exact Or.inl rfl | exact Or.inr (Or.inl rfl) | exact Or.inr (Or.inr rfl)) (hiM : i ∈ M := by decide) (hd : (x == ("__debug__" : Str)) = false := by decide) (hcd : (x == ("__classdict__" : Str)) = false := by decide)
    (hbase : attributeBase (.Name x px) "pop" X.env (eval (.Name x px) X.env) = eval (.Name x px) X.env := by rfl)
    (hfew : ((backTo pc (starEach [k] X.env)).all (fun x => !x.1) && (backToKw pc (keywordEach [] X.env)).all (fun x => x.1.isSome)
      && decide (([k] : List Expr).length + ([] : List Keyword).length + (if ([] : List Keyword).isEmpty then 0 else 1) < 30)) = true := by rfl)
    (hline : (pa.endLine == pc.line) = true := by rfl) (ht : backTo pc (starEach [k] X.env) = [(false, eval k X.env)] := by rfl)
    (hs : swapsWith (.Call (.Attribute (.Name x px) "pop" pa) [k] [] pc) none pos.line X.env = pure false := by rfl) : DS X W M M Lb (.Expr (.Call (.Attribute (.Name x px) "pop" pa) [k] [] pc) pos) (dpopS i fk) := by
  refine psImp (ps_expr (pe_dpop1 (pe_var hi hv hd hcd) hk ⟨hbase, hfew, hline, ht⟩) hs) fun D σ H ⟨G, o, ρ, hm, R, q⟩ => ?_
  obtain ⟨a, ha⟩ := mem_id (by rw [hm]; exact hiM)
  unfold dpopS at q
  obtain ⟨⟨ds0, vs0, g1, g2, g3, g4⟩, q⟩ := R.fstK ha q
  refine ⟨.ref a, g2, a, rfl, .inl ⟨_, .inl g3⟩, ρ, R.full, ?_⟩
  cases e1 : fk ρ with
  | ok d =>
    rw [e1] at q
    intro v H' s r
    have R' := R.mono s
    cases d with
    | int z =>
      dsimp only at q
      cases e2 : ownK i ρ with
      | ok ds =>
        rw [e2] at q
        dsimp only at q
        obtain ⟨kvs, k1, k2, k3, k4⟩ := R'.ownKAt ha e2
        rcases dget_of k4 z with ⟨w1, w2⟩ | ⟨d', v', w1, w2, w3⟩
        · rw [w1, if_neg (by simp)] at q; exact q.elim
        · rw [w1, if_pos (by simp)] at q
          exact ⟨kvs, .inl z, v', k3, dp_int r, w2, q σ _ o hm (R'.putO ha (.dic upd_same (dpk_drop k4)))⟩
      | err c => rw [e2] at q; exact q.elim
      | bad => rw [e2] at q; exact q.elim
    | _ => exact q.elim
  | err c =>
    rw [e1] at q
    obtain ⟨C, h1, h2⟩ := q
    exact ⟨C, h1, fun d H' s => h2 σ H' d (R.same.trans s) (R.full.mono s)⟩
  | bad => rw [e1] at q; exact q.elim
end

/-! ### range(a, b, c), c more than 0 -/
def stepD (lo hi c : Int) : List PyData := (List.range ((hi - lo + c - 1) / c).toNat).map fun (i : Nat) => .int (lo + (i : Int) * c)
def itR3P (f g h : Ex) : Itr' := fun ρ => (f ρ).bind fun x => (g ρ).bind fun y => (h ρ).bind fun z => (asI x).bind fun m => (asI y).bind fun n => (asI z).bind fun c => if (1 ≤ c ∧ c ≤ 1000000) ∧ inB m ∧ inB n then .ok (stepD m n c) else .bad
@[simp] theorem itR3P_ap (f g h : Ex) (ρ : Env) : itR3P f g h ρ = (f ρ).bind fun x => (g ρ).bind fun y => (h ρ).bind fun z => (asI x).bind fun m => (asI y).bind fun n => (asI z).bind fun c => if (1 ≤ c ∧ c ≤ 1000000) ∧ inB m ∧ inB n then .ok (stepD m n c) else .bad := rfl
theorem stepD_length (lo hi c : Int) : (stepD lo hi c).length = ((hi - lo + c - 1) / c).toNat := by unfold stepD; rw [List.length_map, List.length_range]
theorem stepD_get {lo hi c : Int} {i : Nat} (h : i < ((hi - lo + c - 1) / c).toNat) : (stepD lo hi c)[i]? = some (.int (lo + (i : Int) * c)) := by
  unfold stepD
  rw [List.getElem?_map, List.getElem?_range h]
  rfl
theorem rangeSize_pos {i j c : Int} (hc : 1 ≤ c) : Builtin.Range.rangeSize i j c = (((j - i + c - 1) / c).toNat : Int) := by
  unfold Builtin.Range.rangeSize
  rw [if_pos (by omega)]
  by_cases h : i < j
  · rw [if_pos h]
    have e : j - i + c - 1 = (j - i - 1) + 1 * c := by omega
    rw [e, Int.add_mul_ediv_right _ _ (by omega)]
    have := Int.ediv_nonneg (show 0 ≤ j - i - 1 by omega) (show 0 ≤ c by omega)
    omega
  · rw [if_neg h]
    have h1 : (j - i + c - 1) / c ≤ 0 := by
      have : (j - i + c - 1) / c < 1 := Int.ediv_lt_of_lt_mul (by omega) (by omega)
      omega
    omega
theorem RgC.pos {i j c : Int} (hc : 1 ≤ c ∧ c ≤ 1000000) (hi : inB i) (hj : inB j) : RgC i j c ((j - i + c - 1) / c).toNat := by
  unfold inB at hi hj
  refine ⟨by omega, by omega, ?_, rangeSize_pos hc.1⟩
  unfold Builtin.Range.small
  rw [rangeSize_pos hc.1]
  have h1 : (j - i + c - 1) / c ≤ 4000000 := by
    by_cases h : 0 ≤ j - i + c - 1
    · have := Int.ediv_le_self c h
      omega
    · have : (j - i + c - 1) / c < 1 := Int.ediv_lt_of_lt_mul (by omega) (by omega)
      omega
  simp only [Builtin.Range.rangeFitsLong, Bool.and_eq_true, Bool.or_eq_true, decide_eq_true_eq, beq_iff_eq, show c > 0 by omega, if_true]
  generalize (j - i + c - 1) / c = q at *
  omega
section
variable {X : Cx} {W : WX} {a b c tg : Expr} {fa fb fc : Ex} {p pos : Pos}
theorem i_range3P (hm : X.mg "range" = none) (ha : DE X W a fa) (hb : DE X W b fb) (hc : DE X W c fc) (hg : Gl X "range" := by rfl) (hs : starEach [a, b, c] X.env = (false, eval a X.env) :: starEach [b, c] X.env := by rfl) (hs2 : starEach [b, c] X.env = (false, eval b X.env) :: starEach [c] X.env := by rfl) (hs3 : starEach [c] X.env = (false, eval c X.env) :: starEach [] X.env := by rfl)
    (hpl : (backTo pos (starEach [b, c] X.env)).any (·.1) = false := by rfl) : DI X W tg (.Call (.Name "range" p) [a, b, c] [] pos) (itR3P fa fb fc) := by
  refine piImp (pi_range3 hg hm (pa_cons ha (pa_cons hb (pa_cons hc pa_nil hs3) hs2) hs) hs hpl) fun σ H Q ⟨ρ, hρ, h⟩ => ⟨ρ, hρ, (Post.bindI h).imp fun v H1 _ ⟨d, _, s1, rx, h1⟩ => ⟨ρ, hρ.mono s1, (Post.bindI h1).imp fun u H2 _ ⟨e, _, s2, ry, h2⟩ => ⟨ρ, (hρ.mono s1).mono s2, (Post.bindI h2).imp fun w H3 _ ⟨f, _, s3, rz, h3⟩ => ?_⟩⟩⟩
  cases d with
  | int m =>
    cases e with
    | int n =>
      cases f with
      | int c =>
        have h4 : PostI X.K X.mg W σ H3 Q (if (1 ≤ c ∧ c ≤ 1000000) ∧ inB m ∧ inB n then .ok (stepD m n c) else .bad) := h3
        by_cases hb : (1 ≤ c ∧ c ≤ 1000000) ∧ inB m ∧ inB n
        · rw [if_pos hb] at h4
          refine ⟨m, n, c, _, by rw [dp_int rx, dp_int ry, dp_int rz], RgC.pos hb.1 hb.2.1 hb.2.2, h4 _ H3 (Same.refl _) ?_⟩
          exact .of walk_rangeC (stepD_length m n c).symm (fun _ _ => trivial) fun i H1 x H' hi s ⟨e, y⟩ => ⟨_, stepD_get hi, .inl ⟨e, by rw [y]; exact .int _⟩⟩
        · rw [if_neg hb] at h4
          exact h4.elim
      | _ => exact h3.elim
    | _ => exact h3.elim
  | _ => exact h3.elim
end
/-! ### xs.index(x), it is there -/
def oIndexL : PyData → PyData → Option PyData
  | .list ds, d => if SeqAt.shaped (.list ds) = true ∧ SeqAt.shaped d = true then (ds.findIdx? fun z => PyData.eqv z d).map fun (j : Nat) => .int (j : Int) else none
  | _, _ => none
def eLstIx (f g : Ex) : Ex := fun ρ => (f ρ).bind fun x => (asL x).bind fun xs => (g ρ).bind fun y => Res.of (oIndexL (.list xs) y)
@[simp] theorem eLstIx_ap (f g : Ex) (ρ : Env) : eLstIx f g ρ = (f ρ).bind fun x => (asL x).bind fun xs => (g ρ).bind fun y => Res.of (oIndexL (.list xs) y) := rfl
section
variable {X : Cx} {W : WX} {a b : Expr} {fa fb : Ex} {pa pos : Pos}
theorem d_lstIndex (hu : X.A.units + 65 < cLine) (ha : DE X W a fa) (hb : DE X W b fb) (hbase : attributeBase a "index" X.env (eval a X.env) = eval a X.env := by rfl)
    (hfew : ((backTo pos (starEach [b] X.env)).all (fun x => !x.1) && (backToKw pos (keywordEach [] X.env)).all (fun x => x.1.isSome)
      && decide (([b] : List Expr).length + ([] : List Keyword).length + (if ([] : List Keyword).isEmpty then 0 else 1) < 30)) = true := by rfl)
    (hline : (pa.endLine == pos.line) = true := by rfl) (hs : starEach [b] X.env = (false, eval b X.env) :: starEach [] X.env := by rfl) (hplain : (backTo pos (starEach [] X.env)).any (·.1) = false := by rfl) :
    DE X W (.Call (.Attribute a "index" pa) [b] [] pos) (eLstIx fa fb) := by
  refine peImp (pe_bm PySem.F.plainAttrs_list PySem.F.slot_list_index PySem.F.type_list_index (mt_indexD hu) ha (pa_cons hb pa_nil hs) hbase hfew hline hs hplain) fun σ H Q ⟨ρ, hρ, h⟩ => ⟨ρ, hρ, (Post.bind h).imp fun v H1 _ ⟨dx, _, s1, rx, h1⟩ => ?_⟩
  cases dx with
  | list ds =>
    have h1 : Post X.K X.mg W σ H1 Q ((fb ρ).bind fun y => Res.of (oIndexL (.list ds) y)) := h1
    obtain ⟨q, vs, rfl, hsq, hv⟩ := dp_lst rx
    refine ⟨.inl ⟨rfl, vs, hsq⟩, ρ, hρ.mono s1, (Post.bind h1).imp fun u H2 _ ⟨dy, _, s2, ry, h2⟩ => ?_⟩
    have h2 : Post X.K X.mg W σ H2 Q (Res.of (if SeqAt.shaped (.list ds) = true ∧ SeqAt.shaped dy = true then (ds.findIdx? fun z => PyData.eqv z dy).map fun (j : Nat) => PyData.int (j : Int) else none)) := h2
    by_cases hc : SeqAt.shaped (.list ds) = true ∧ SeqAt.shaped dy = true
    · rw [if_pos hc] at h2
      cases hj : ds.findIdx? fun z => PyData.eqv z dy with
      | none => rw [hj] at h2; exact h2.elim
      | some j =>
        rw [hj] at h2
        obtain ⟨hlt, hp, hno⟩ := List.findIdx?_eq_some_iff_getElem.mp hj
        exact ⟨q, u, dy, ds, j, ds[j], rfl, rfl, dpOld (dpMono s2 rx) (lay_of_shaped hc.1), dpOld ry (lay_of_shaped hc.2), hc.1, hc.2, List.getElem?_eq_getElem hlt, hp, fun m z' hm hz => by
          have hml : m < ds.length := by omega
          have := hno m hm
          rw [List.getElem?_eq_getElem hml] at hz
          cases hz
          simpa using this, h2 _ H2 (Same.refl _) (.int _)⟩
    · rw [if_neg hc] at h2
      exact h2.elim
  | _ => exact h1.elim
end
/-! ### i in t, t a tuple of whole numbers -/
def oInT : PyData → PyData → Option PyData
  | .int i, .tuple ds => (toInts ds).map fun ns => .bool (ns.contains i)
  | _, _ => none
def oNotInT : PyData → PyData → Option PyData
  | .int i, .tuple ds => (toInts ds).map fun ns => .bool (!ns.contains i)
  | _, _ => none
theorem flatV_ints (ns : List Int) : (ns.map V.int).all flatV = true := by simp [flatV]
theorem inV_ints (i : Int) (ns : List Int) : inV (.int i) (ns.map V.int) = ns.contains i := by
  unfold inV
  rw [List.any_map, List.contains_eq_any_beq]
  congr 1
  funext z
  show eqV (.int z) (.int i) = _
  rw [Bool.eq_iff_iff]
  simp [eqV]
  exact eq_comm
theorem o2_inT {K : PySem.W.Frag} : Op2 K (rIn K false) oInT := by
  intro x y dx dy d H Q rx ry e q
  cases dx with
  | int i =>
    cases dy with
    | tuple ds =>
      obtain ⟨ns, e1, e2⟩ := Option.map_eq_some_iff.mp e
      obtain ⟨a, vs, rfl, ha, hva⟩ := dp_tup ry
      rw [dp_ints hva e1] at ha
      rw [dp_int rx]
      refine ⟨a, _, rfl, .inr ha, rfl, flatV_ints ns, ?_⟩
      rw [inV_ints]
      cases e2
      exact q _ H (Same.refl _) (.bl _)
    | _ => cases e
  | _ => cases dy <;> cases e
theorem o2_notInT {K : PySem.W.Frag} : Op2 K (rIn K true) oNotInT := by
  intro x y dx dy d H Q rx ry e q
  cases dx with
  | int i =>
    cases dy with
    | tuple ds =>
      obtain ⟨ns, e1, e2⟩ := Option.map_eq_some_iff.mp e
      obtain ⟨a, vs, rfl, ha, hva⟩ := dp_tup ry
      rw [dp_ints hva e1] at ha
      rw [dp_int rx]
      refine ⟨a, _, rfl, .inr ha, rfl, flatV_ints ns, ?_⟩
      rw [inV_ints]
      cases e2
      exact q _ H (Same.refl _) (.bl _)
    | _ => cases e
  | _ => cases dy <;> cases e
section
variable {X : Cx} {W : WX} {a b : Expr} {fa fb : Ex} {pos : Pos}
theorem d_inT (ha : DE X W a fa) (hb : DE X W b fb) (hm : behindInMarks .In b = false := by with_unfolding_all rfl) : DE X W (.Compare a [.In] [b] pos) (eOp oInT fa fb) := d_cmp op_in_seq o2_inT ha hb hm
theorem t_inT (ha : DE X W a fa) (hb : DE X W b fb) (hm : behindInMarks .In b = false := by with_unfolding_all rfl) : DT X W (.Compare a [.In] [b] pos) (eB (eOp oInT fa fb)) := dt_cmp op_in_seq o2_inT ha hb hm
end
/-- nothing is told of a statement -/
def badS : Sf := fun _ => .bad
theorem s_bad {X : Cx} {W : WX} {M M' Lb : List Nat} {st : Stmt} : DS X W M M' Lb st badS := ⟨fun pins s σ H D I ⟨G, o, ρ, hm, R, q⟩ => q.elim⟩
end L2.DL
set_option maxHeartbeats 2000000
namespace L2.DL
open PySem PySem.Spec PyProof.Rows

/-! ### a dict walked: locked meanwhile -/
structure Swap (H H' : Hp) : Prop where
  rd : ∀ b kvs, Rd H b (.dK kvs) → Rd H' b (.dK kvs)
  oth : ∀ b u, H b = some u → (∀ kvs, u ≠ .dK kvs) → (∀ o kvs, u ≠ .frz o (.dK kvs)) → H' b = some u
theorem Swap.sql {K : PySem.W.Frag} {H H' : Hp} (s : Swap H H') {a : Addr} {xs : List V} (h : SqL K H a xs) : SqL K H' a xs := by
  rcases h with (h | ⟨o, h⟩) | h
  · exact .inl (.inl (s.oth _ _ h (fun _ z => nomatch z) (fun _ _ z => nomatch z)))
  · exact .inl (.inr ⟨o, s.oth _ _ h (fun _ z => nomatch z) (fun _ _ z => nomatch z)⟩)
  · exact .inr h
mutual
theorem dpSwap {K : PySem.W.Frag} {H H' : Hp} (s : Swap H H') : ∀ {v : V} {d : PyData}, Dp K H v d → Dp K H' v d
  | _, _, .non => .non
  | _, _, .bl b => .bl b
  | _, _, .int i => .int i
  | _, _, .str x => .str x
  | _, _, .lst h a => .lst (s.sql h) (dpAllSwap s a)
  | _, _, .tup h a => .tup (by
      rcases h with ⟨o, h, d⟩ | h
      · exact .inl ⟨o, s.oth _ _ h (fun _ z => nomatch z) (fun _ _ z => nomatch z), d⟩
      · exact .inr h) (dpAllSwap s a)
  | _, _, .dic h a => .dic (s.rd _ _ h) (dpKSwap s a)
  | _, _, .ins h c a => .ins (s.oth _ _ h (fun _ z => nomatch z) (fun _ _ z => nomatch z)) c (dpFSwap s a)
theorem dpAllSwap {K : PySem.W.Frag} {H H' : Hp} (s : Swap H H') : ∀ {vs : List V} {ds : List PyData}, DpAll K H vs ds → DpAll K H' vs ds
  | _, _, .nil => .nil
  | _, _, .cons h t => .cons (dpSwap s h) (dpAllSwap s t)
theorem dpKSwap {K : PySem.W.Frag} {H H' : Hp} (s : Swap H H') : ∀ {vs : List (Key × V)} {ds : List (PyData × PyData)}, DpK K H vs ds → DpK K H' vs ds
  | _, _, .nil => .nil
  | _, _, .cons h t => .cons (dpSwap s h) (dpKSwap s t)
theorem dpFSwap {K : PySem.W.Frag} {H H' : Hp} (s : Swap H H') : ∀ {vs : List (Str × V)} {ds : List (PyData × PyData)}, DpF K H vs ds → DpF K H' vs ds
  | _, _, .nil => .nil
  | _, _, .cons h t => .cons (dpSwap s h) (dpFSwap s t)
end
theorem swap_lock {H : Hp} {a : Addr} {kvs : List (Key × V)} {o : Obj} (h : H a = some (.dK kvs)) : Swap H (upd H a (.frz o (.dK kvs))) := by
  refine ⟨fun b ks r => ?_, fun b u hb n1 n2 => ?_⟩
  · by_cases z : b = a
    · subst z
      rcases r with r | ⟨o2, r⟩
      · rw [h] at r
        cases r
        exact .inr ⟨o, upd_same⟩
      · rw [h] at r; cases r
    · rcases r with r | ⟨o2, r⟩
      · exact .inl (by rw [upd_ne z]; exact r)
      · exact .inr ⟨o2, by rw [upd_ne z]; exact r⟩
  · have nb : b ≠ a := fun z => by rw [z, h] at hb; cases hb; exact n1 _ rfl
    rw [upd_ne nb]; exact hb
theorem swap_unlock {H : Hp} {a : Addr} {kvs : List (Key × V)} {o : Obj} (h : H a = some (.frz o (.dK kvs))) : Swap H (upd H a (.dK kvs)) := by
  refine ⟨fun b ks r => ?_, fun b u hb n1 n2 => ?_⟩
  · by_cases z : b = a
    · subst z
      rcases r with r | ⟨o2, r⟩
      · rw [h] at r; cases r
      · rw [h] at r
        cases r
        exact .inl upd_same
    · rcases r with r | ⟨o2, r⟩
      · exact .inl (by rw [upd_ne z]; exact r)
      · exact .inr ⟨o2, by rw [upd_ne z]; exact r⟩
  · have nb : b ≠ a := fun z => by rw [z, h] at hb; cases hb; exact n2 _ _ rfl
    rw [upd_ne nb]; exact hb
theorem DpS.swap {K : PySem.W.Frag} {H H' : Hp} {σ : St} {ρ : Env} (h : DpS K H σ ρ) (s : Swap H H') : DpS K H' σ ρ := ⟨h.len, fun i d e => by
  obtain ⟨v, h1, h2⟩ := h.get i d e
  exact ⟨v, h1, dpSwap s h2⟩⟩
/-- back to the heap ahead of the lock -/
theorem same_unlock {H H' : Hp} {a : Addr} {kvs : List (Key × V)} {o : Obj} (h : H a = some (.dK kvs)) (s : Same (upd H a (.frz o (.dK kvs))) H') : Same H (upd H' a (.dK kvs)) := fun b u hb => by
  by_cases z : b = a
  · rw [z, h] at hb
    cases hb
    rw [z, upd_same]
  · rw [upd_ne z]
    exact s b u (by rw [upd_ne z]; exact hb)
theorem same_lock {H H' : Hp} {a : Addr} {kvs : List (Key × V)} {o : Obj} (s : Same (upd H a (.frz o (.dK kvs))) H') : H' a = some (.frz o (.dK kvs)) := s a _ upd_same
/-- the keys of a dict -/
def keysD : PyData → Res (List PyData)
  | .dict ds => if plainDc ds = true then .ok (ds.map (·.1)) else .bad
  | _ => .bad
def itDk (i : Nat) : Itr' := fun ρ => (eVar i ρ).bind keysD
theorem itDk_noerr {i : Nat} {ρ : Env} {c : Str} : itDk i ρ ≠ .err c := by
  unfold itDk eVar
  intro h
  cases e : ρ[i]?.join with
  | none => rw [e] at h; cases h
  | some d =>
    rw [e] at h
    have h : keysD d = .err c := h
    cases d with
    | dict ds =>
      by_cases hp : plainDc ds = true
      · rw [show keysD (.dict ds) = if plainDc ds = true then .ok (ds.map (·.1)) else .bad from rfl, if_pos hp] at h
        cases h
      · rw [show keysD (.dict ds) = if plainDc ds = true then .ok (ds.map (·.1)) else .bad from rfl, if_neg hp] at h
        cases h
    | _ => cases h
theorem itDk_ok {i : Nat} {ρ : Env} {ks : List PyData} (h : itDk i ρ = .ok ks) : ∃ ds, ρ[i]? = some (some (.dict ds)) ∧ plainDc ds = true ∧ ks = ds.map (·.1) := by
  unfold itDk eVar at h
  cases e : ρ[i]?.join with
  | none => rw [e] at h; cases h
  | some d =>
    rw [e] at h
    have h : keysD d = .ok ks := h
    cases d with
    | dict ds =>
      by_cases hp : plainDc ds = true
      · rw [show keysD (.dict ds) = if plainDc ds = true then .ok (ds.map (·.1)) else .bad from rfl, if_pos hp] at h
        cases h
        refine ⟨ds, ?_, hp, rfl⟩
        cases e2 : ρ[i]? with
        | none => rw [e2] at e; cases e
        | some o =>
          rw [e2] at e
          have e : o = some (.dict ds) := e
          rw [e]
      · rw [show keysD (.dict ds) = if plainDc ds = true then .ok (ds.map (·.1)) else .bad from rfl, if_neg hp] at h
        cases h
    | _ => cases h
theorem dpk_keys {K : PySem.W.Frag} {H : Hp} : ∀ {kvs : List (Key × V)} {ds : List (PyData × PyData)}, DpK K H kvs ds → ∀ {i : Nat} {k : Key} {v : V}, kvs[i]? = some (k, v) → (ds.map (·.1))[i]? = some (keyD k)
  | _, _, .nil, i, k, v, e => by simp at e
  | _, _, .cons _ t, 0, k, v, e => by
    simp at e
    rw [e.1]
    rfl
  | _, _, .cons _ t, i + 1, k, v, e => by
    simpa using dpk_keys t (by simpa using e)
theorem dp_kV {K : PySem.W.Frag} {H : Hp} (k : Key) : Dp K H (kV k) (keyD k) := by
  cases k with
  | inl i => exact .int i
  | inr x => exact .str x
theorem walkK {K : PySem.W.Frag} {H : Hp} {a : Addr} {o : Obj} {kvs : List (Key × V)} {ds : List (PyData × PyData)} (h : H a = some (.frz o (.dK kvs))) (r : DpK K H kvs ds) : WalkD K (Itk a o kvs) H (ds.map (·.1)) := by
  have hl := dpk_len r
  refine ⟨fun i H' hi s => ⟨s _ _ h, by rw [hl]; simpa using hi⟩, fun H' s => ⟨s _ _ h, by rw [hl]; simp⟩, fun i H' x H2 hi s y => ?_⟩
  obtain ⟨rfl, k, v, e, rfl⟩ := y
  exact ⟨keyD k, dpk_keys r e, .inl ⟨rfl, dp_kV k⟩⟩
/-- slot i holds a locked dict -/
def Frz (i : Nat) (σ : St) (H : Hp) : Prop := ∃ (a : Addr) (o : Obj) (kvs : List (Key × V)), σ[i]? = some (some (.ref a)) ∧ H a = some (.frz o (.dK kvs))
theorem tLc_frz {i : Nat} {wi : TI} {g : TG} {tt : TT} {te : TE} {vs : List Nat} {σ : St} {H : Hp} {Q : VK} (h1 : Frz i σ H) (h2 : tLc wi g tt te vs σ H Q) : tLc (fun σ H R => Frz i σ H ∧ wi σ H R) g tt te vs σ H Q := And.intro h1 h2
theorem peOr {X : Cx} {e : Expr} {t u : TE} (h1 : PE X e t) (h2 : PE X e u) : PE X e (fun σ H Q => t σ H Q ∨ u σ H Q) := ⟨fun pins s σ H Q I h => h.elim (h1.run pins s σ H Q I) (h2.run pins s σ H Q I)⟩
theorem psOr {X : Cx} {st : Stmt} {t u : TS} (h1 : PS X st t) (h2 : PS X st u) : PS X st (fun D σ H => t D σ H ∨ u D σ H) := ⟨fun pins s σ H D I h => h.elim (h1.run pins s σ H D I) (h2.run pins s σ H D I)⟩
section
variable {X : Cx} {W : WX} {tg : Expr} {x : Str} {px : Pos}
theorem i_keysF (i : Nat) (hN : X.N[i]? = some x := by rfl) (hv : Vis X.env.scope x := by first | exact Or.inl rfl | exact Or.inr (Or.inl rfl) | exact Or.inr (Or.inr rfl)) (hd : (x == ("__debug__" : Str)) = false := by decide)
    (hcd : (x == ("__classdict__" : Str)) = false := by decide) : PI X tg (.Name x px) (fun σ H R => Frz i σ H ∧ tDI X.K X.mg W (itDk i) σ H R) := by
  refine piImp (pi_keys (pe_var hN hv hd hcd)) fun σ H R ⟨⟨a, o, kvs, hs, ha⟩, ρ, hρ, h⟩ => ⟨_, hs, a, o, rfl, .inl ⟨kvs, ha, ?_⟩⟩
  cases e : itDk i ρ with
  | err c => exact absurd e itDk_noerr
  | bad => rw [e] at h; exact h.elim
  | ok ks =>
    rw [e] at h
    obtain ⟨ds, e1, hp, rfl⟩ := itDk_ok e
    obtain ⟨v, e2, r⟩ := hρ.get i _ e1
    rw [hs] at e2
    cases e2
    obtain ⟨a', kvs', ea, hr, hk⟩ := dp_dc r hp
    cases ea
    have : kvs' = kvs := by
      rcases hr with hr | ⟨o2, hr⟩
      · rw [ha] at hr; cases hr
      · rw [ha] at hr; cases hr; rfl
    subst this
    exact h _ H (Same.refl _) (walkK ha hk)
variable {elt : Expr} {ifs : List Expr} {scope : Scope} {own : List (Str × Nat)} {pos : Pos} {t : Tgt} {c : Te} {e : Ex}
/-- [e for t in d if c], d a name of a dict -/
theorem d_compK (i : Nat) (hc : X.calm = true) (hN : X.N.Nodup) (ok : BlkOk X.N X.env.scope scope own) (hsl : own.map (·.2) = t.slots)
    (hg : ∀ (s : Shared) (H : Hp) (C : Addr) (cl : List (Str × Addr)) (fp : List Addr), DG (X.blk s H scope (compEnvC scope cl C X.env) fp) tg t) (ht : ∀ (s : Shared) (H : Hp) (C : Addr) (cl : List (Str × Addr)) (fp : List Addr), DTs (X.blk s H scope (compEnvC scope cl C X.env) fp) W0 ifs c)
    (he : ∀ (s : Shared) (H : Hp) (C : Addr) (cl : List (Str × Addr)) (fp : List Addr), DE (X.blk s H scope (compEnvC scope cl C X.env) fp) W0 elt e)
    (hNi : X.N[i]? = some x := by rfl) (hv : Vis X.env.scope x := by first | exact Or.inl rfl | exact Or.inr (Or.inl rfl) | exact Or.inr (Or.inr rfl)) (hd : (x == ("__debug__" : Str)) = false := by decide) (hcd : (x == ("__classdict__" : Str)) = false := by decide) (hs : ∀ y, foldedSetIterable (.Name x px) X.env y = pure y := by intro _; rfl) :
    DE X W (.ListComp elt [⟨tg, .Name x px, ifs, 0⟩] scope pos) (eComp (itDk i) t c e) := by
  have base := pe_lc (pos := pos) (te := tFr (tD X.K X.mg W0 e)) (tt := tDT X.K X.mg W0 c) (g := tgG X.K t) hc hN (i_keysF (W := W) (tg := tg) (px := px) i hNi hv hd hcd) ok hg ht (fun s H C cl fp => pe_frame (he s H C cl fp)) hs
  refine peImp (peOr base (pe_lock base)) fun σ H Q ⟨ρ, hρ, h⟩ => ?_
  cases ei : itDk i ρ with
  | err c => exact absurd ei itDk_noerr
  | bad =>
    unfold eComp eCompL at h
    rw [ei] at h
    exact h.elim
  | ok ks =>
    obtain ⟨ds, e1, hp, rfl⟩ := itDk_ok ei
    obtain ⟨v, e2, r⟩ := hρ.get i _ e1
    obtain ⟨a, kvs, rfl, hr, hk⟩ := dp_dc r hp
    rcases hr with ha | ⟨o, ha⟩
    · right
      refine ⟨a, _, ha, trivial, fun od => ?_⟩
      rw [hsl]
      refine tLc_frz ⟨a, od, kvs, e2, upd_same⟩ ?_
      refine tLc_of ⟨ρ, hρ.swap (swap_lock ha), postC_of ?_⟩
      cases er : eComp (itDk i) t c e ρ with
      | err z =>
        exfalso
        unfold eComp eCompL at er
        rw [ei] at er
        simp only [Res.bind_ok] at er
        split at er
        · cases ec : compD t c e (wipeD ρ t.slots) (ds.map (·.1)) with
          | err q => exact compD_noerr ec
          | bad => rw [ec] at er; cases er
          | ok xs => rw [ec] at er; cases er
        · cases er
      | bad => rw [er] at h; exact h.elim
      | ok d =>
        rw [er] at h
        exact fun v H' s r => ⟨same_lock s, h v _ (same_unlock ha s) (dpSwap (swap_unlock (same_lock s)) r)⟩
    · left
      rw [hsl]
      refine tLc_frz ⟨a, o, kvs, e2, ha⟩ ?_
      exact tLc_of ⟨ρ, hρ, postC_of h⟩
end
end L2.DL
set_option maxHeartbeats 2000000
namespace L2.DL
open PySem PySem.Spec PyProof.Rows

/-! ### xs.count(k) -/
def oCountL (x y : PyData) : Option PyData := match x, y with
  | .list ds, .int k => (toInts ds).map fun ns => .int ((ns.count k : Nat) : Int)
  | _, _ => none
def eCount (f g : Ex) : Ex := fun ρ => (f ρ).bind fun x => (asL x).bind fun xs => (g ρ).bind fun y => Res.of (oCountL (.list xs) y)
@[simp] theorem eCount_ap (f g : Ex) (ρ : Env) : eCount f g ρ = (f ρ).bind fun x => (asL x).bind fun xs => (g ρ).bind fun y => Res.of (oCountL (.list xs) y) := rfl
section
variable {X : Cx} {W : WX} {a b : Expr} {fa fb : Ex} {pa pos : Pos}
theorem d_count (ha : DE X W a fa) (hb : DE X W b fb) (hbase : attributeBase a "count" X.env (eval a X.env) = eval a X.env := by rfl)
    (hfew : ((backTo pos (starEach [b] X.env)).all (fun x => !x.1) && (backToKw pos (keywordEach [] X.env)).all (fun x => x.1.isSome)
      && decide (([b] : List Expr).length + ([] : List Keyword).length + (if ([] : List Keyword).isEmpty then 0 else 1) < 30)) = true := by rfl)
    (hline : (pa.endLine == pos.line) = true := by rfl) (hs : starEach [b] X.env = (false, eval b X.env) :: starEach [] X.env := by rfl) (hplain : (backTo pos (starEach [] X.env)).any (·.1) = false := by rfl) :
    DE X W (.Call (.Attribute a "count" pa) [b] [] pos) (eCount fa fb) := by
  refine peImp (pe_bm PySem.F.plainAttrs_list PySem.F.slot_list_count PySem.F.type_list_count mt_lcount ha (pa_cons hb pa_nil hs) hbase hfew hline hs hplain) fun σ H Q ⟨ρ, hρ, h⟩ => ⟨ρ, hρ, (Post.bind h).imp fun v H1 _ ⟨dx, _, s1, rx, h1⟩ => ?_⟩
  cases dx with
  | list ds =>
    have h1 : Post X.K X.mg W σ H1 Q ((fb ρ).bind fun y => Res.of (oCountL (.list ds) y)) := h1
    obtain ⟨q, vs, rfl, hsq, hv⟩ := dp_lst rx
    refine ⟨.inl ⟨rfl, vs, hsq⟩, ρ, hρ.mono s1, (Post.bind h1).imp fun u H2 _ ⟨dy, _, s2, ry, h2⟩ => ?_⟩
    cases dy with
    | int k =>
      have h2 : Post X.K X.mg W σ H2 Q (Res.of ((toInts ds).map fun ns => PyData.int ((ns.count k : Nat) : Int))) := h2
      cases e1 : toInts ds with
      | none => rw [e1] at h2; exact h2.elim
      | some ns =>
        rw [e1] at h2
        have hs2 := s2.seq hsq
        rw [dp_ints hv e1] at hs2
        exact ⟨q, ns, k, rfl, by rw [dp_int ry], hs2, h2 _ H2 (Same.refl _) (.int _)⟩
    | _ => exact h2.elim
  | _ => exact h1.elim
end
end L2.DL
set_option maxHeartbeats 2000000
namespace L2.DL
open PySem PySem.Spec PyProof.Rows

/-! ### x = dict(ps), ps pairs whose keys are whole numbers -/
def toPairs : List PyData → Option (List (Int × PyData))
  | [] => some []
  | .tuple [.int k, v] :: r => (toPairs r).map ((k, v) :: ·)
  | _ => none
def mergeD (ps : List (Int × PyData)) (ds : List (PyData × PyData)) : List (PyData × PyData) := ps.foldl (fun acc p => dputI p.1 p.2 acc) ds
inductive PairK (K : PySem.W.Frag) (H : Hp) : List (Key × V) → List (Int × PyData) → Prop
  | nil : PairK K H [] []
  | cons {k : Int} {v : V} {d : PyData} {kvs : List (Key × V)} {ps : List (Int × PyData)} : Dp K H v d → PairK K H kvs ps → PairK K H ((.inl k, v) :: kvs) ((k, d) :: ps)
theorem merge_dp {K : PySem.W.Frag} {H : Hp} : ∀ {kvs : List (Key × V)} {ps : List (Int × PyData)}, PairK K H kvs ps → ∀ {acc : List (Key × V)} {ds : List (PyData × PyData)}, DpK K H acc ds → DpK K H (mergeK acc kvs) (mergeD ps ds)
  | _, _, .nil, acc, ds, h => h
  | _, _, .cons h t, acc, ds, r => merge_dp t (dpk_put r h)
theorem pairs_of {K : PySem.W.Frag} {H : Hp} : ∀ {ds : List PyData} {vs : List V} {ps : List (Int × PyData)}, DpAll K H vs ds → toPairs ds = some ps → ∃ (as : List Addr) (kvs : List (Key × V)), vs = as.map V.ref ∧ Paired (fun p kv => SqT K H p [kV kv.1, kv.2]) as kvs ∧ PairK K H kvs ps
  | [], _, _, h, e => by
    cases h
    cases e
    exact ⟨[], [], rfl, .nil, .nil⟩
  | d :: ds, vs', ps, h, e => by
    cases h with
    | @cons v0 vs0 _ _ h1 h2 =>
      have key : ∀ k v, d = .tuple [.int k, v] → ∃ (as : List Addr) (kvs : List (Key × V)), v0 :: vs0 = as.map V.ref ∧ Paired (fun p kv => SqT K H p [kV kv.1, kv.2]) as kvs ∧ PairK K H kvs ps := fun k v hd => by
        subst hd
        have e : (toPairs ds).map ((k, v) :: ·) = some ps := e
        cases e1 : toPairs ds with
        | none => rw [e1] at e; cases e
        | some qs =>
          rw [e1] at e
          cases e
          obtain ⟨as, kvs, rfl, p1, p2⟩ := pairs_of h2 e1
          obtain ⟨a, xs, rfl, hs, hv⟩ := dp_tup h1
          cases hv with
          | cons g1 g2 =>
            cases g2 with
            | cons g3 g4 =>
              cases g4
              rw [dp_int g1] at hs
              exact ⟨a :: as, (.inl k, _) :: kvs, rfl, .cons hs p1, .cons g3 p2⟩
      cases d with
      | tuple xs =>
        match xs, e with
        | [.int k, v], _ => exact key k v rfl
      | _ => cases e
def newDPS (M : List Nat) (i : Nat) (e : Ex) : Sf := fun ρ => match e (wipeD ρ M) with
  | .ok (.list ds) => (match toPairs ds with
    | some ps => if i < ρ.length then .nx (ρ.set i (some (.dict (mergeD ps [])))) else .bad
    | none => .bad)
  | .err c => .err c (wipeD ρ M)
  | _ => .bad
theorem newDPS_ok {M : List Nat} {i : Nat} {e : Ex} {ρ : Env} {ds : List PyData} {ps : List (Int × PyData)} (h : e (wipeD ρ M) = .ok (.list ds)) (h2 : toPairs ds = some ps) (hl : i < ρ.length) : newDPS M i e ρ = .nx (ρ.set i (some (.dict (mergeD ps [])))) := by
  unfold newDPS
  rw [h]
  dsimp only
  rw [h2]
  dsimp only
  rw [if_pos hl]
section
variable {X : Cx} {W : WX} {M M' M1 M2 Lb : List Nat} {e k : Expr} {fe fk : Ex} {pos px pa pc ps dp : Pos} {x : Str}
theorem s_newDP (i : Nat) (hc : X.calm = true) (hm : X.mg "dict" = none) (hN : X.N.Nodup) (h : DE X W e fe) (hi : X.N[i]? = some x := by rfl) (hx : Loc X.env.scope x := by first | exact Or.inl rfl | exact Or.inr rfl) (hiM : i ∉ M := by decide) (hg : Gl X "dict" := by rfl)
    (hs1 : starEach [e] X.env = (false, eval e X.env) :: starEach [] X.env := by rfl) (hpl : (backTo pc (starEach [] X.env)).any (·.1) = false := by rfl)
    (hs : swapsWith (.Call (.Name "dict" pa) [e] [] pc) (some (.Name x px)) pos.line X.env = pure false := by rfl) (hf : X.fn x = true ∨ X.env.scope.names.lookup x = some .local := by first | exact .inl rfl | exact .inr rfl | assumption) :
    DS X W M (i :: M) Lb (.Assign [.Name x px] (.Call (.Name "dict" pa) [e] [] pc) pos) (newDPS M i fe) := by
  refine psImp (ps_set hN hi hx (pe_frame (pe_callTy (call_dictP hc) hg hm (by decide +kernel) (pa_cons h pa_nil hs1) (by decide) (by decide) hs1 hpl)) hs hf) fun D σ H hh => ?_
  obtain ⟨G, o, ρ, hm, R, q⟩ := hh
  refine ⟨AD o, R.lsts, wipeD ρ M, by rw [← hm]; exact R.erase, ?_⟩
  unfold newDPS at q
  cases ef : fe (wipeD ρ M) with
  | err c =>
    rw [ef] at q
    obtain ⟨C, h1, h2⟩ := q
    exact ⟨C, h1, fun d H' s => h2 σ H' d (R.base.trans s) (by rw [← hm]; exact (R.erase).mono s)⟩
  | bad => rw [ef] at q; exact q.elim
  | ok d =>
    rw [ef] at q
    cases d with
    | list ds =>
      dsimp only at q
      cases ep : toPairs ds with
      | none => rw [ep] at q; exact q.elim
      | some prs =>
        rw [ep] at q
        dsimp only at q
        by_cases hl : i < ρ.length
        rotate_left
        · rw [if_neg hl] at q; exact q.elim
        rw [if_pos hl] at q
        intro v H1 s1 rv
        obtain ⟨a0, vs, rfl, hsq, hv⟩ := dp_lst rv
        obtain ⟨as, kvs, rfl, p1, p2⟩ := pairs_of hv ep
        refine ⟨a0, as, kvs, rfl, hsq, p1, fun a na n => ?_⟩
        have naA : a ∉ AD o := fun z => by
          have := n a z
          rw [upd_same] at this
          cases this
        have n' : ∀ b ∈ AD o, H1 b = none := fun b hb => by
          have := n b hb
          rw [upd_ne (fun z => naA (by rw [← z]; exact hb))] at this
          exact this
        obtain ⟨R', ec⟩ := R.glued s1 n'
        have eg : glue (AD o) H (upd H1 a (.dK (mergeK [] kvs))) = upd (glue (AD o) H H1) a (.dK (mergeK [] kvs)) := by
          funext b
          unfold glue upd
          by_cases h1 : b ∈ AD o
          · have : b ≠ a := fun z => naA (by rw [← z]; exact h1)
            simp [h1, this]
          · simp [h1]
        have hga : glue (AD o) H H1 a = none := by rw [glue_out naA]; exact na
        rw [eg]
        exact q _ _ ((i, a) :: o) (by show i :: ID o = _; rw [hm]) (own_newO R' (by rw [hm]; exact hiM) hl hga naA (.dic upd_same (by rw [ec]; exact merge_dp p2 .nil)))
    | _ => exact q.elim
end
end L2.DL
set_option maxHeartbeats 2000000
namespace L2.DL
open PySem PySem.Spec PyProof.Rows

/-! ### for k in d, d a name of a dict -/
theorem SRep.swapAt {K : PySem.W.Frag} {G1 G2 H : Hp} {o : Ow} {σ : St} {ρ : Env} {a : Addr} {u : HO} (R : SRep K G1 o H σ ρ) (na : a ∉ AD o) (s : Swap (cut (AD o) H) (cut (AD o) (upd H a u))) (hb : Same G2 (cut (AD o) (upd H a u))) : SRep K G2 o (upd H a u) σ ρ := by
  refine ⟨R.len, fun i d e h => ?_, fun i b h => ?_, R.nda, R.ndi, hb⟩
  · obtain ⟨v, h1, h2⟩ := R.get i d e h
    exact ⟨v, h1, dpSwap s h2⟩
  · obtain ⟨d, h1, h2, h3⟩ := R.own i b h
    have nb : b ≠ a := fun z => na (by rw [← z]; exact List.mem_map.mpr ⟨(i, b), h, rfl⟩)
    refine ⟨d, h1, h2, ?_⟩
    cases h3 with
    | lst g1 g2 => exact .lst (by rw [upd_ne nb]; exact g1) (dpAllSwap s g2)
    | dic g1 g2 => exact .dic (by rw [upd_ne nb]; exact g1) (dpKSwap s g2)
def forKS (M : List Nat) (i : Nat) (t : Tgt) (fb : Sf) : Sf := fun ρ => match forS M (itDk i) t fb ρ with
  | .err _ _ => .bad
  | r => r
section
variable {X : Cx} {W : WX} {M M' M1 M2 Lb : List Nat} {tg : Expr} {body : List Stmt} {t : Tgt} {fb : Sf} {pos px : Pos} {x : Str}
theorem ps_forF (i : Nat) (hp : PassesOwn (model X.prog X.w) X.A X.env X.xe) (hc : X.calm = true) (hg : DG X tg t) (hb : DSs X W M M M body fb) (hN : X.N[i]? = some x) (hv : Vis X.env.scope x) (hdb : (x == ("__debug__" : Str)) = false) (hcd : (x == ("__classdict__" : Str)) = false) (hiM : i ∉ M) (hd : ∀ i ∈ t.slots, i ∉ M) (hs : ∀ y, foldedSetIterable (.Name x px) X.env y = pure y) :
    PS X (.For tg (.Name x px) body [] pos) (fun D σ H => ∃ G o ρ, ID o = M ∧ SRep X.K G o H σ ρ ∧ Frz i σ H ∧ SPost X.K X.mg W G M Lb D (forS M (itDk i) t fb ρ)) := by
  refine psImp (ps_for hp hc (pi_keys (pe_var hN hv hdb hcd)) hg hb hs) fun D σ H ⟨G, o, ρ, hm, R, ⟨a, ob, kvs, hsa, ha⟩, q⟩ => ⟨_, hsa, a, ob, rfl, .inl ⟨kvs, ha, ?_⟩⟩
  unfold forS at q
  cases ei : itDk i (wipeD ρ M) with
  | err c => exact absurd ei itDk_noerr
  | bad => rw [ei] at q; exact q.elim
  | ok ks =>
    rw [ei] at q
    dsimp only at q
    obtain ⟨ds, e1, hpd, rfl⟩ := itDk_ok ei
    obtain ⟨e2, e3⟩ := wipeD_get e1
    obtain ⟨v, g1, g2⟩ := R.get i _ e2 (by rw [hm]; exact e3)
    rw [hsa] at g1
    cases g1
    obtain ⟨a', kvs', ea, hr, hk⟩ := dp_dc g2 hpd
    cases ea
    have hac : cut (AD o) H a = some (.frz ob (.dK kvs)) ∧ kvs' = kvs := by
      rcases hr with hr | ⟨o2, hr⟩
      · have := (cut_some hr).2
        rw [ha] at this
        cases this
      · have h2 := (cut_some hr).2
        rw [ha] at h2
        cases h2
        exact ⟨hr, rfl⟩
    obtain ⟨hac, rfl⟩ := hac
    have w := walkK (K := X.K) hac hk
    obtain ⟨r, hr⟩ : ∃ r, loopS t fb (ds.map (·.1)) ρ = r := ⟨_, rfl⟩
    rw [hr] at q
    generalize ds.map (·.1) = ks at w hr
    generalize hB : cut (AD o) H = B at w
    have sGB : Same G B := by rw [← hB]; exact R.base
    have RB : SRep X.K B o H σ ρ := R.grow sGB (by rw [← hB]; exact Same.refl _)
    refine for_it w.walk (fun i σ H => ∃ o' ρi, ID o' = M ∧ SRep X.K B o' H σ ρi ∧ loopS t fb (ks.drop i) ρi = r) ⟨o, ρ, hm, RB, hr⟩ (fun i σ H _ ⟨o', ρi, _, Ri, _⟩ => Ri.same) ?_ ?_
    · rintro i x σ2 H2 H3 hi' ⟨o', ρi, hm', Ri, el⟩ ⟨d, hd', y⟩
      have s2 : Same B H2 := Ri.same
      obtain ⟨s3, hx⟩ := dp_yd s2 y
      have R3 := Ri.mono s3
      have hxc : Dp X.K (cut (AD o') H3) x d := by
        rcases y with ⟨rfl, h⟩ | ⟨T, ob, us, es, hdn, hT, rfl, rfl, ha, rfl⟩
        · exact dpMono Ri.base h
        · have nT : T ∉ AD o' := fun z => by
            obtain ⟨o1, e', _⟩ := Ri.lsts T z
            rw [hT] at e'; cases e'
          rw [cut_upd nT]
          have nT2 : cut (AD o') H2 T = none := by rw [cut_out nT]; exact hT
          exact .tup (.inl ⟨ob, upd_same, hdn⟩) (dpAllMono (Ri.base.trans (sameUpd nT2)) ha)
      have hdrop : ks.drop i = d :: ks.drop (i + 1) := by
        obtain ⟨hi2, e'⟩ := List.getElem?_eq_some_iff.mp hd'
        rw [← e', ← List.drop_eq_getElem_cons hi2]
      rw [hdrop] at el
      unfold loopS at el
      cases eb : bindT t d ρi with
      | err c => rw [eb] at el; rw [← el] at q; exact q.elim
      | bad => rw [eb] at el; rw [← el] at q; exact q.elim
      | ok ρ1 =>
        rw [eb] at el
        dsimp only at el
        refine s_asg.bind_own R3 hxc (by rw [hm']; exact hd) eb fun σ' R4 => ⟨B, o', ρ1, hm', R4, ?_⟩
        cases ef : fb ρ1 with
        | nx ρ2 => rw [ef] at el; exact fun σ5 H5 o5 hm5 R5 => ⟨o5, ρ2, hm5, R5, el⟩
        | cnt ρ2 => rw [ef] at el; exact fun σ5 H5 o5 hm5 R5 => ⟨o5, ρ2, hm5, R5, el⟩
        | brk ρ2 =>
          rw [ef] at el
          dsimp only at el
          rw [← el] at q
          exact fun σ5 H5 o5 hm5 R5 => q σ5 H5 o5 hm5 (R5.shrink sGB)
        | ret d =>
          rw [ef] at el
          dsimp only at el
          rw [← el] at q
          exact fun v H5 s5 r5 => q v H5 (sGB.trans s5) r5
        | err c ρ2 =>
          rw [ef] at el
          dsimp only at el
          rw [← el] at q
          obtain ⟨C, h1, h2⟩ := q
          exact ⟨C, h1, fun σ5 H5 d s5 r5 => h2 σ5 H5 d (sGB.trans s5) r5⟩
        | bad => rw [ef] at el; dsimp only at el; rw [← el] at q; exact q.elim
    · rintro σ2 H2 ⟨o', ρi, hm', Ri, el⟩
      rw [List.drop_length] at el
      rw [← el] at q
      exact q σ2 H2 o' hm' (Ri.shrink sGB)
theorem s_forK (i : Nat) (hp : PassesOwn (model X.prog X.w) X.A X.env X.xe) (hc : X.calm = true) (hg : DG X tg t) (hb : DSs X W M M M body fb) (hN : X.N[i]? = some x := by rfl) (hv : Vis X.env.scope x := by first | exact Or.inl rfl | exact Or.inr (Or.inl rfl) | exact Or.inr (Or.inr rfl)) (hdb : (x == ("__debug__" : Str)) = false := by decide) (hcd : (x == ("__classdict__" : Str)) = false := by decide)
    (hiM : i ∉ M := by decide) (hd : ∀ i ∈ t.slots, i ∉ M := by decide) (hs : ∀ y, foldedSetIterable (.Name x px) X.env y = pure y := by intro _; rfl) : DS X W M M Lb (.For tg (.Name x px) body [] pos) (forKS M i t fb) := by
  have base := ps_forF (Lb := Lb) (pos := pos) (px := px) i hp hc hg hb hN hv hdb hcd hiM hd hs
  refine psImp (psOr base (ps_lock base)) fun D σ H ⟨G, o, ρ, hm, R, q⟩ => ?_
  unfold forKS at q
  cases er : forS M (itDk i) t fb ρ with
  | err c ρ' => rw [er] at q; exact q.elim
  | bad => rw [er] at q; exact q.elim
  | _ =>
    rw [er] at q
    dsimp only at q
    have hok : ∃ ks, itDk i (wipeD ρ M) = .ok ks := by
      unfold forS at er
      cases ei : itDk i (wipeD ρ M) with
      | err c => exact absurd ei itDk_noerr
      | bad => rw [ei] at er; cases er
      | ok ks => exact ⟨ks, rfl⟩
    obtain ⟨ks, ei⟩ := hok
    obtain ⟨ds, e1, hpd, _⟩ := itDk_ok ei
    obtain ⟨e2, e3⟩ := wipeD_get e1
    obtain ⟨v, g1, g2⟩ := R.get i _ e2 (by rw [hm]; exact e3)
    obtain ⟨a, kvs, rfl, hr, hk⟩ := dp_dc g2 hpd
    rcases hr with hr | ⟨ob, hr⟩
    · right
      obtain ⟨na, ha⟩ := cut_some hr
      refine ⟨a, _, ha, trivial, fun od => ?_⟩
      have sl : Swap (cut (AD o) H) (cut (AD o) (upd H a (.frz od (.dK kvs)))) := by
        rw [cut_upd na]
        exact swap_lock hr
      have hb' : Same (upd G a (.frz od (.dK kvs))) (cut (AD o) (upd H a (.frz od (.dK kvs)))) := by
        rw [cut_upd na]
        intro b u hb
        by_cases z : b = a
        · rw [z, upd_same] at hb ⊢
          exact hb
        · rw [upd_ne z] at hb ⊢
          exact R.base b u hb
      refine ⟨upd G a (.frz od (.dK kvs)), o, ρ, hm, R.swapAt na sl hb', ⟨a, od, kvs, g1, upd_same⟩, ?_⟩
      rw [er]
      -- back, whatever the end
      have fz : ∀ {H'}, Same (upd G a (.frz od (.dK kvs))) H' → H' a = some (.frz od (.dK kvs)) := fun s => s a _ upd_same
      have un : ∀ {H'}, Same (upd G a (.frz od (.dK kvs))) H' → Same G (upd H' a (.dK kvs)) := fun {H'} s b u hb => by
        by_cases z : b = a
        · rw [z] at hb ⊢
          have := R.base a u hb
          rw [hr] at this
          cases this
          exact upd_same
        · rw [upd_ne z]
          exact s b u (by rw [upd_ne z]; exact hb)
      have back : ∀ {σ' : St} {H' : Hp} {o' : Ow} {ρ' : Env}, SRep X.K (upd G a (.frz od (.dK kvs))) o' H' σ' ρ' → H' a = some (.frz od (.dK kvs)) ∧ SRep X.K G o' (upd H' a (.dK kvs)) σ' ρ' := fun {σ' H' o' ρ'} R' => by
        have hca := fz R'.base
        obtain ⟨na', ha'⟩ := cut_some hca
        refine ⟨ha', R'.swapAt na' ?_ ?_⟩
        · rw [cut_upd na']
          exact swap_unlock hca
        · rw [cut_upd na']
          exact un R'.base
      first
      | exact fun σ' H' o' hm' R' => ⟨(back R').1, q σ' _ o' hm' (back R').2⟩
      | exact fun v H' s r => ⟨fz s, q v _ (un s) (dpSwap (swap_unlock (fz s)) r)⟩
    · left
      refine ⟨G, o, ρ, hm, R, ⟨a, ob, kvs, g1, (cut_some hr).2⟩, ?_⟩
      rw [er]
      exact q
theorem forKS_nx {i : Nat} {ρ : Env} {r : SRes} (h : forS M (itDk i) t fb ρ = r) (hn : ∀ c ρ', r ≠ .err c ρ') : forKS M i t fb ρ = r := by
  unfold forKS
  rw [h]
  cases r with
  | err c ρ' => exact absurd rfl (hn c ρ')
  | _ => rfl
end
end L2.DL
set_option maxHeartbeats 2000000
namespace L2.DL
open PySem PySem.Spec PyProof.Rows

/-! ### n not in d.values() -/
theorem entry_contains_iter : entryFor table "proto.contains_iter" = some Builtin.«proto.contains_iter» := entryFor_of_fast (by kernel_rfl)
section
variable {prog : Program} {w : World} {A : Around} {R : Result → Shared → Prop} {I : Addr} {fp wr : List Addr} {n : Nat} {P : Nat → Value → Prop} {St : Nat → Heap → Prop}
theorem codeAny_contains_iter (W : Walks prog w A.in1 I fp wr n P St) (val : Nat → Int) (hval : ∀ i v, P i v → ∃ t, v = .int (val i) t) (x : Int) (tx : Tok) :
    ∀ (k i : Nat) (s : Shared), n - i = k → i ≤ n → St i s.heap → (∀ (b : Bool) h' tk, (b = true ↔ ∃ j, i ≤ j ∧ j < n ∧ val j = x) → (∀ c o, c ∉ wr → s.heap.get? c = some o → h'.get? c = some o) → R (.ok (.ret (.bool b))) { s with heap := h', toks := tk }) →
      codeAny (model prog w) A (.builtin "proto.contains_iter" ⟨[.ref I, .int x tx], []⟩) R s := by
  intro k
  induction k with
  | zero =>
    intro i s hk hi hst hR
    have hin : i = n := by omega
    subst hin
    refine codeAny_builtin entry_contains_iter ?_
    rw [Around.under_plainId (by decide +kernel) _]
    show wpAny _ A.in1 (pyNext (.ref I) >>= _) _ _ s
    refine wpAny_bind (W.done s _ _ hst fun h' tk hm => ?_)
    show wpAny _ A.in1 (PySem.rule _ >>= _) _ _ _
    refine wpAny_bind (wpAny_rule ?_)
    refine wpAny_pure (hR false h' tk ⟨fun z => (nomatch z), fun ⟨j, h1, h2, _⟩ => by omega⟩ hm)
  | succ k ih =>
    intro i s hk hi hst hR
    have hlt : i < n := by omega
    refine codeAny_builtin entry_contains_iter ?_
    rw [Around.under_plainId (by decide +kernel) _]
    show wpAny _ A.in1 (pyNext (.ref I) >>= _) _ _ s
    refine wpAny_bind (W.item i s _ _ hlt hst fun v h' tk hP hst' hm => ?_)
    obtain ⟨t, rfl⟩ := hval i v hP
    show wpAny _ A.in1 (eqBool (.int (val i) t) (.int x tx) >>= _) _ _ _
    refine wpAny_bind (wpAny_eqBool_int ?_)
    by_cases e : val i = x
    · rw [e, beq_self_eq_true, if_pos rfl]
      refine wpAny_bind (wpAny_rule ?_)
      refine wpAny_pure (hR true h' tk ⟨fun _ => ⟨i, Nat.le_refl _, hlt, e⟩, fun _ => rfl⟩ hm)
    · have eb : (val i == x) = false := by simpa using e
      rw [eb, if_neg Bool.false_ne_true]
      refine wpAny_pure ⟨plainId_quiet (by decide +kernel) _, ih (i + 1) _ (by omega) hlt hst' fun b h2 tk2 hb hm2 => ?_⟩
      refine hR b h2 tk2 ?_ fun c o hc ho => hm2 c o hc (hm c o hc ho)
      rw [hb]
      constructor
      · rintro ⟨j, h1, h3, h4⟩
        exact ⟨j, by omega, h3, h4⟩
      · rintro ⟨j, h1, h3, h4⟩
        rcases Nat.lt_or_eq_of_le h1 with z | z
        · exact ⟨j, z, h3, h4⟩
        · subst z; exact absurd h4 e
end
section
variable {prog : Program} {w : World} {A : Around} {E : Value → Shared → Prop} {s : Shared}
theorem wpAny_contains_values (hh : A.in1.handled = none) {K : Type} [DecidableEq K] {knd : KeyKind prog w K} {v d : Addr} {vs : List (K × Value)} {ep : Nat} (hv : s.heap.IsValuesView v d) (dat : s.heap.DictAt knd d vs ep)
    (val : Nat → Int) (hval : ∀ (i : Nat) (u : Value), (∃ k, vs[i]? = some (k, u)) → ∃ t, u = .int (val i) t) (x : Int) (tx : Tok) {Q : Bool → Shared → Prop}
    (hQ : ∀ (b : Bool) h' tk, (b = true ↔ ∃ j, j < vs.length ∧ val j = x) → (∀ c o, s.heap.get? c = some o → h'.get? c = some o) → Q b { s with heap := h', toks := tk }) :
    wpAny (model prog w) A (contains (.ref v) (.int x tx)) Q E s := by
  have hT := hv.typeIs
  have hlook : typeLookup (.type "dict_values") "__contains__" = pure none := by kernel_rfl
  unfold contains
  refine wpAny_holding ?_
  rw [stdlibNamesSay?_of_typeIs hT]
  refine wpAny_bind (wpAny_specialOf hT hlook ?_)
  show wpAny _ _ (if ((none : Option Value) == some Value.none) = true then _ else _) Q E s
  rw [if_neg (by simp)]
  refine wpAny_bind (wpAny_callSpecialUnlessNone?_none hT hlook ?_)
  refine wpAny_bind (wpAny_rule ?_)
  refine wpAny_bind (wpAny_tryCatch (wpAny_pyIter_values hv dat ?_))
  obtain ⟨od, es, hod, hcd, hdd, hk, hp, hn⟩ := id dat
  have hlt : d < s.heap.objs.size := Heap.lt_size hod
  refine wpAny_bind (wpAny_runValue (codeAny_contains_iter (Walks.dictValues (knd := knd) (A := A.in1) hh s.heap.objs.size d (Nat.ne_of_lt hlt) vs ep) val (fun i u h => hval i u h) x tx vs.length 0 _ rfl (Nat.zero_le _)
    ⟨⟨_, Heap.get?_push_size _ rfl, rfl, rfl⟩, dat.keep fun b u e => Heap.get?_push_of_some _ e⟩ fun b h' tk hb hm => ?_))
  refine wpAny_pure (hQ b h' tk (hb.trans ⟨fun ⟨j, _, h2, h3⟩ => ⟨j, h2, h3⟩, fun ⟨j, h2, h3⟩ => ⟨j, Nat.zero_le _, h2, h3⟩⟩) fun c o ho => hm c o (fun z => ?_) (Heap.get?_push_of_some _ ho))
  have e1 : c = s.heap.objs.size := List.mem_singleton.mp z
  have e2 := Heap.lt_size ho
  rw [e1] at e2
  exact Nat.lt_irrefl _ e2
end
def tNotVals (ty td : TE) : TE := fun σ H Q => ty σ H fun y H1 => td σ H1 fun x H2 => ∃ (a : Addr) (kvs : List (Key × V)) (is : List Int) (k : Int), x = V.ref a ∧ Rd H2 a (.dK kvs) ∧ kvs.map (·.2) = is.map V.int ∧ y = .int k ∧ Q (.bl (!is.contains k)) H2
section
variable {X : Cx} {i o : Expr} {apos mpos : Pos} {ty td : TE}
theorem pc_notVals (hc : X.calm = true) (hi : PE X i ty) (hd : PE X o td) (hbase : attributeBase o "values" X.env (eval o X.env) = eval o X.env := by rfl) (hline : (apos.endLine == mpos.line) = true := by rfl) :
    PC X .NotIn i (.Call (.Attribute o "values" apos) [] [] mpos) (tNotVals ty td) := by
  refine ⟨fun pins s σ H Q I h => ?_⟩
  refine thn (hi.run pins s σ H _ I h) fun iv s0 ⟨y, H0, I0, ry, q0⟩ => wpAny_Call_method0_late hbase hline (thn (hd.run pins s0 σ H0 _ I0 q0) fun v s1 ⟨x, H1, I1, r1, a, kvs, is, k, ex, ha, hv, ey, q⟩ => ?_)
  subst ex
  subst ey
  obtain rfl : v = Value.ref a := r1
  obtain ⟨tk, rfl⟩ := ry
  obtain ⟨_, hsys, vs, rel, dof⟩ := dk_rd I1.hok ha
  obtain ⟨ep, dat⟩ := dof.dictAt
  have dat' := dat
  obtain ⟨ob, es, ho, ex, hdat, hko, hpr, hnd⟩ := dat'
  refine ⟨"dict", "dict.values", F.plainAttrs_dict, F.slot_dict_values, F.type_dict_values, ⟨ob, ho, ex.1⟩, fun b e => ?_, Calls.callWith_builtin rfl (PySem.evalArgs_none ?_)⟩
  · cases e
    exact ⟨ob, ho, ex.2.1⟩
  refine call_meetsIn F.slot_dict_values ⟨ob, ho, ex.1⟩ F.entry_dict_values (F.args_dict_values_1 _) (meets_dict_values (mixKind X.prog X.w) a hsys) ⟨⟨vs, dof⟩, ?_⟩
  have k1 : ∀ b u, s1.heap.get? b = some u → (s1.heap.push { cls := .type "dict_values", data := .fields #[.ref a] }).get? b = some u := fun b u e => Heap.get?_push_of_some _ e
  have dat1 : (s1.heap.push { cls := .type "dict_values", data := .fields #[.ref a] }).DictAt (mixKind X.prog X.w) a vs ep := dat.keep k1
  have hlv : vs.length = is.length := by
    have e1 := congrArg List.length hv
    rw [List.length_map, List.length_map] at e1
    rw [← e1]
    exact (KV.length rel).symm
  have hval : ∀ (i : Nat) (v : Value), (∃ k, vs[i]? = some (k, v)) → ∃ t, v = Value.int (is.getD i 0) t := fun i v ⟨k, hk⟩ => by
    obtain ⟨x, h1, h2⟩ := KV.at' rel hk
    have e1 : (kvs.map (·.2))[i]? = some x := by rw [List.getElem?_map, h1] <;> rfl
    rw [hv, List.getElem?_map] at e1
    obtain ⟨j, hj, e2⟩ := Option.map_eq_some_iff.mp e1
    subst e2
    obtain ⟨t, e3⟩ := h2
    refine ⟨t, ?_⟩
    rw [e3, List.getD_eq_getElem?_getD, hj] <;> rfl
  show wpAny _ _ (contains (.ref s1.heap.objs.size) (.int k tk) >>= fun b => pure (Value.bool (!b))) _ _ _
  refine wpAny_bind (wpAny_contains_values (I1.ok.hd hc) (v := s1.heap.objs.size) (d := a) ⟨_, Heap.get?_push_size _ rfl, rfl, rfl⟩ dat1 (fun i => is.getD i 0) hval k tk fun b h' tk' hb hm => ?_)
  refine wpAny_pure ⟨.bl _, H1, I1.kept (t' := tk') fun c u e => hm c u (k1 c u e), rfl, ?_⟩
  have e : b = is.contains k := by
    rw [Bool.eq_iff_iff, hb]
    constructor
    · rintro ⟨j, h1, h2⟩
      rw [hlv] at h1
      rw [List.contains_iff_mem, ← h2, List.getD_eq_getElem?_getD, List.getElem?_eq_getElem h1]
      exact List.getElem_mem h1
    · intro z
      rw [List.contains_iff_mem] at z
      obtain ⟨j, h1, h2⟩ := List.mem_iff_getElem.mp z
      refine ⟨j, by omega, ?_⟩
      rw [List.getD_eq_getElem?_getD, List.getElem?_eq_getElem h1, ← h2]
      rfl
  rw [e]
  exact q
end
/-- x not in d.values(): ints -/
def oNotVals (x d : PyData) : Option PyData := match x, d with
  | .int k, .dict ds => if plainDc ds = true then (toInts (ds.map (·.2))).map fun is => .bool (!is.contains k) else none
  | _, _ => none
theorem dpk_snd {K : PySem.W.Frag} {H : Hp} : ∀ {kvs : List (Key × V)} {ds : List (PyData × PyData)}, DpK K H kvs ds → DpAll K H (kvs.map (·.2)) (ds.map (·.2))
  | _, _, .nil => .nil
  | _, _, .cons h t => .cons h (dpk_snd t)
section
variable {X : Cx} {W : WX} {a o : Expr} {apos mpos pos : Pos} {fa fo : Ex}
theorem notVals_of {σ : St} {H : Hp} {Q : VK} (h : tD X.K X.mg W (eOp oNotVals fa fo) σ H Q) : tNotVals (tD X.K X.mg W fa) (tD X.K X.mg W fo) σ H Q := by
  obtain ⟨ρ, hρ, h⟩ := h
  refine ⟨ρ, hρ, (Post.bind h).imp fun v H1 s1 ⟨d, e1, _, rx, h1⟩ => ⟨ρ, hρ.mono s1, (Post.bind h1).imp fun w H2 s2 ⟨d2, e2, _, ry, h2⟩ => ?_⟩⟩
  cases d with
  | int k =>
    cases d2 with
    | dict ds =>
      by_cases hp : plainDc ds = true
      · have e : oNotVals (.int k) (.dict ds) = (toInts (ds.map (·.2))).map fun is => .bool (!is.contains k) := if_pos hp
        rw [e] at h2
        cases et : toInts (ds.map (·.2)) with
        | none => rw [et] at h2; exact h2.elim
        | some is =>
          rw [et] at h2
          obtain ⟨a, kvs, ea, hr, hk⟩ := dp_dc ry hp
          refine ⟨a, kvs, is, k, ea, hr, dp_ints (dpk_snd hk) et, dp_int (dpMono s2 rx), h2 _ H2 (Same.refl _) (.bl _)⟩
      · have e : oNotVals (.int k) (.dict ds) = none := if_neg hp
        rw [e] at h2
        exact h2.elim
    | _ => exact h2.elim
  | _ => exact h2.elim
theorem d_notVals (hc : X.calm = true) (ha : DE X W a fa) (ho : DE X W o fo) (hm : behindInMarks .NotIn (.Call (.Attribute o "values" apos) [] [] mpos) = false := by rfl) (hbase : attributeBase o "values" X.env (eval o X.env) = eval o X.env := by rfl) (hline : (apos.endLine == mpos.line) = true := by rfl) :
    DE X W (.Compare a [.NotIn] [.Call (.Attribute o "values" apos) [] [] mpos] pos) (eOp oNotVals fa fo) := peImp (pe_cmp (pc_notVals hc ha ho hbase hline) hm) fun _ _ _ h => notVals_of h
end
end L2.DL
set_option maxHeartbeats 2000000
namespace L2.DL
open PySem PySem.Spec PyProof.Rows

/-! ### x in d, x a whole number or None -/
section
variable {X : Cx} {W : WX} {a o : Expr} {pos : Pos} {fa fo : Ex}
theorem din_of {σ : St} {H : Hp} {Q : VK} (h : tD X.K X.mg W (eOp oDin fa fo) σ H Q) : tDInN (tD X.K X.mg W fa) (tD X.K X.mg W fo) σ H Q := by
  obtain ⟨ρ, hρ, h⟩ := h
  refine ⟨ρ, hρ, (Post.bind h).imp fun v H1 s1 ⟨d, e1, _, rx, h1⟩ => ⟨ρ, hρ.mono s1, (Post.bind h1).imp fun w H2 s2 ⟨d2, e2, _, ry, h2⟩ => ?_⟩⟩
  cases d with
  | int k =>
    cases d2 with
    | dict ds =>
      rw [oDin_int] at h2
      by_cases hp : plainDc ds = true
      · rw [if_pos hp] at h2
        obtain ⟨q, kvs, rfl, hr, hv⟩ := dp_dc ry hp
        refine .inl ⟨q, valV kvs (.inl k), rfl, .inl ⟨kvs, .inl k, hr, dp_int (dpMono s2 rx), rfl⟩, ?_⟩
        have e : (valV kvs (.inl k)).isSome = (dgetI k ds).isSome := by
          rcases dget_of hv k with ⟨g1, g2⟩ | ⟨d', v', g1, g2, _⟩
          · rw [g1, g2]; rfl
          · rw [g1, g2]; rfl
        rw [e]
        exact h2 _ H2 (Same.refl _) (.bl _)
      · rw [if_neg hp] at h2
        exact h2.elim
    | _ => exact h2.elim
  | none =>
    cases d2 with
    | dict ds =>
      rw [oDin_non] at h2
      by_cases hp : plainDc ds = true
      · rw [if_pos hp] at h2
        obtain ⟨q, kvs, rfl, hr, hv⟩ := dp_dc ry hp
        exact .inr ⟨q, kvs, rfl, dp_non (dpMono s2 rx), hr, h2 _ H2 (Same.refl _) (.bl _)⟩
      · rw [if_neg hp] at h2
        exact h2.elim
    | _ => exact h2.elim
  | _ => exact h2.elim
theorem d_din (hu : X.A.units + 65 < cLine) (ha : DE X W a fa) (ho : DE X W o fo) (hm : behindInMarks .In o = false := by rfl) : DE X W (.Compare a [.In] [o] pos) (eOp oDin fa fo) :=
  peImp (pe_cmp (pc_dinN (by omega) ha ho) hm) fun _ _ _ h => din_of h
theorem t_din (hu : X.A.units + 65 < cLine) (ha : DE X W a fa) (ho : DE X W o fo) (hm : behindInMarks .In o = false := by rfl) : DT X W (.Compare a [.In] [o] pos) (eB (eOp oDin fa fo)) :=
  ptImp (pt_cmp (pc_dinN (by omega) ha ho) hm) fun _ _ _ h => tB_of (fun _ _ _ q => din_of q) h
end
/-! ### a new list from a comprehension, as a value -/
section
variable {X : Cx} {W : WX} {elt tg iter : Expr} {ifs : List Expr} {scope : Scope} {own : List (Str × Nat)} {pos : Pos} {it : Itr'} {t : Tgt} {c : Te} {e : Ex}
theorem n_comp (hc : X.calm = true) (hN : X.N.Nodup) (hi : DI X W tg iter it) (ok : BlkOk X.N X.env.scope scope own) (hsl : own.map (·.2) = t.slots)
    (hg : ∀ (s : Shared) (H : Hp) (C : Addr) (cl : List (Str × Addr)) (fp : List Addr), DG (X.blk s H scope (compEnvC scope cl C X.env) fp) tg t) (ht : ∀ (s : Shared) (H : Hp) (C : Addr) (cl : List (Str × Addr)) (fp : List Addr), DTs (X.blk s H scope (compEnvC scope cl C X.env) fp) W0 ifs c)
    (he : ∀ (s : Shared) (H : Hp) (C : Addr) (cl : List (Str × Addr)) (fp : List Addr), DE (X.blk s H scope (compEnvC scope cl C X.env) fp) W0 elt e) (hs : ∀ x, foldedSetIterable iter X.env x = pure x := by intro _; rfl) :
    DN X W (.ListComp elt [⟨tg, iter, ifs, 0⟩] scope pos) (eCompL it t c e) :=
  peImp (pe_lc hc hN hi ok hg ht (fun s H C cl fp => pe_frame (he s H C cl fp)) hs) fun σ H Q ⟨ρ, hρ, h⟩ => by rw [hsl]; exact tLc_of ⟨ρ, hρ, postC_ofN h⟩
end
end L2.DL
set_option maxHeartbeats 1000000
namespace L2.DL
open PySem PySem.Spec PyProof.Rows

/-! ### [f, g, ..][i](args): a def out of a list display is called -/
theorem eval_Call_Sub (a b : Expr) (p : Pos) (args : List Expr) (keywords : List Keyword) (pos : Pos) (env : PySem.Env) : eval (.Call (.Subscript a b p) args keywords pos) env = (do
    callWith pos (← eval (.Subscript a b p) env) [] (backTo pos (starEach args env)) (backToKw pos (keywordEach keywords env))) := rfl
def eCallIx (fns : List (List PyData → Res PyData)) (fi : Ex) (g : Ar) : Ex := fun ρ => (fi ρ).bind fun i => match i with
  | .int k => if 0 ≤ k then (match fns[k.toNat]? with
    | some fn => eCall fn g ρ
    | none => .bad) else .bad
  | _ => .bad
inductive FnsOk (X : Cx) (k n : Nat) : List Expr → List (List PyData → Res PyData) → Prop
  | nil : FnsOk X k n [] []
  | cons {x : Str} {p : Pos} {fn : List PyData → Res PyData} {es : List Expr} {fns : List (List PyData → Res PyData)} (F : Df X.prog X.w X.K X.mg X.base x k n fn) (h : FnsOk X k n es fns) (hg : Gl X x := by rfl) (hdb : (x == ("__debug__" : Str)) = false := by decide)
      (hs : starEach (.Name x p :: es) X.env = (false, eval (.Name x p) X.env) :: starEach es X.env := by rfl) : FnsOk X k n (.Name x p :: es) (fn :: fns)
structure FnAt (X : Cx) (k n : Nat) (fn : List PyData → Res PyData) (f : Addr) : Prop where
  ex : ∃ (fd : FuncData) (ps : List Str), FnOk X.prog X.w X.K X.mg X.base (L2.CX X.prog X.w) k f fd ps (spD X.K X.mg n fn) ∧ PySem.W.keepIn X.K (.ref f) = true ∧ Binds X.K fd ps []
theorem fns_pa {X : Cx} {k n : Nat} : ∀ {es : List Expr} {fns : List (List PyData → Res PyData)}, FnsOk X k n es fns →
    ∃ fs : List Addr, PA X es (fun σ H Q => Q (fs.map V.ref) H) ∧ fs.length = fns.length ∧ ∀ (j : Nat) (fn : List PyData → Res PyData), fns[j]? = some fn → ∃ f, fs[j]? = some f ∧ FnAt X k n fn f
  | _, _, .nil => ⟨[], paImp pa_nil fun σ H Q h => h, rfl, fun j fn h => by simp at h⟩
  | _, _, .cons (x := x) (p := p) (fn := fn) (es := es) (fns := fns) F h hg hdb hs => by
    obtain ⟨fs, h1, h2, h3⟩ := fns_pa h
    obtain ⟨f, fd, ps, g1, g2, g3, g4⟩ := F.ex
    have hn : PE X (.Name x p) (tC (.ref f)) := ⟨fun pins s σ H Q I hq => ld_glob I hg g2 ⟨.ref f, H, I, rfl, hq⟩ hdb⟩
    refine ⟨f :: fs, paImp (pa_cons hn h1 hs) fun σ H Q hq => hq, by rw [List.length_cons, List.length_cons, h2], fun j fn' hj => ?_⟩
    cases j with
    | zero =>
      cases hj
      exact ⟨f, rfl, fd, ps, g1, g3, g4⟩
    | succ j =>
      exact h3 j fn' hj
section
variable {X : Cx} {W : WX} {names : List Expr} {idx e : Expr} {es : List Expr} {fns : List (List PyData → Res PyData)} {fi : Ex} {g : Ar} {k n : Nat} {lp sp pos : Pos}
theorem d_callIx (F : FnsOk X k n names fns) (hr : Room k X.A) (tk : Takes X W) (hi : DE X W idx fi) (ha : DA X W (e :: es) g) (hs : PlainIx idx := by exact fun _ _ => rfl) (hl : names.length ≤ 30 := by decide) (hn : (e :: es).length = n := by rfl)
    (he : starEach (e :: es) X.env = (false, eval e X.env) :: starEach es X.env := by rfl) (hpl : (backTo pos (starEach es X.env)).any (·.1) = false := by rfl) :
    DE X W (.Call (.Subscript (.List names lp) idx sp) (e :: es) [] pos) (eCallIx fns fi g) := by
  obtain ⟨fs, h1, h2, h3⟩ := fns_pa F
  have hfl : fns.length ≤ 30 := by
    have : ∀ {es : List Expr} {fns : List (List PyData → Res PyData)}, FnsOk X k n es fns → fns.length = es.length := by
      intro es fns h
      induction h with
      | nil => rfl
      | cons _ _ _ _ _ ih => rw [List.length_cons, List.length_cons, ih]
    rw [this F]
    exact hl
  refine ⟨fun pins s σ H Q I ⟨ρ, hρ, h⟩ => ?_⟩
  rw [eval_Call_Sub]
  refine wpAny_bind ?_
  refine thn ((pe_ix ix_list (pe_lst h1) hi hs).run pins s σ H (fun v H1 => ∃ f fn, v = .ref f ∧ FnAt X k n fn f ∧ tDA X.K X.mg W (e :: es).length g σ H1 (fun vs H2 => spD X.K X.mg n fn vs H2 Q (WE W σ))) I ?_) fun u s1 ⟨v, H1, I1, r1, f, fn, ev, hf, ht⟩ => ?_
  · refine ⟨by rw [List.length_map, h2, sizeLine_eq]; omega, fun p hp => ?_⟩
    have sp0 : Same H (upd H p (.lst (fs.map V.ref))) := sameUpd hp
    refine ⟨ρ, hρ.mono sp0, ?_⟩
    unfold eCallIx at h
    refine (Post.bind (h.mono sp0)).imp fun vi H2 s2 ⟨di, e1, _, rx, hq⟩ => ?_
    cases di with
    | int z =>
      dsimp only at hq
      by_cases h0 : 0 ≤ z
      · rw [if_pos h0] at hq
        cases hj : fns[z.toNat]? with
        | none => rw [hj] at hq; exact hq.elim
        | some fn =>
          rw [hj] at hq
          dsimp only at hq
          obtain ⟨f, hf1, hf2⟩ := h3 _ _ hj
          rw [dp_int rx]
          have hz : ((z.toNat : Nat) : Int) = z := by omega
          refine ⟨p, _, z, .ref f, rfl, rfl, SqL.of (s2 _ _ upd_same), ?_, f, fn, rfl, hf2, ρ, (hρ.mono sp0).mono s2, ?_⟩
          · rw [← hz]
            exact atI_nat (by rw [List.getElem?_map, hf1]; rfl)
          · refine (PostA.bind hq).imp fun vs H3 _ ⟨ds, _, hl3, s3, r3, q3⟩ => ⟨hl3.trans hn, ds, r3, ?_⟩
            cases e2 : fn ds with
            | ok d => rw [e2] at q3; exact q3
            | err c => rw [e2] at q3; exact q3
            | bad => rw [e2] at q3; exact q3
      · rw [if_neg h0] at hq
        exact hq.elim
    | _ => exact hq.elim
  · subst ev
    cases r1
    obtain ⟨fd, ps, g1, g3, g4⟩ := hf.ex
    refine PySem.W.callWith_K (h₀ := X.base) I.ok.mod.kin g3 (thn (ha.run pos pins s1 σ _ _ I1 ht) fun us s2 ⟨vs, H2, I2, r, q⟩ => ⟨I2.kIn, ?_⟩) he hpl
    exact run_fnS g1 hr g4 (passAt tk σ) I2 r q
def fnsRetS (i : Nat) (fns : List (List PyData → Res PyData)) (fi : Ex) (g : Ar) : Sf := fun ρ => if i < ρ.length then retS (eCallIx fns fi g) (ρ.set i none) else .bad
/-- x = [f, g, ..]; return x[i](args) -/
theorem s_fnsRet {M' Lb : List Nat} {x : Str} {i : Nat} {px px2 ap rp : Pos} (hN : X.N.Nodup) (F : FnsOk X k n names fns) (hr : Room k X.A) (tk : Takes X W) (hi : DE X W idx fi) (ha : DA X W (e :: es) g)
    (hx : X.N[i]? = some x := by rfl) (hlx : Loc X.env.scope x := by first | exact Or.inl rfl | exact Or.inr rfl) (hvx : Vis X.env.scope x := by first | exact Or.inl rfl | exact Or.inr (Or.inl rfl) | exact Or.inr (Or.inr rfl)) (hd : (x == ("__debug__" : Str)) = false := by decide) (hcd : (x == ("__classdict__" : Str)) = false := by decide)
    (hsw : swapsWith (.List names lp) (some (.Name x px)) ap.line X.env = pure false := by rfl) (hf : X.fn x = true ∨ X.env.scope.names.lookup x = some .local := by first | exact .inl rfl | exact .inr rfl | assumption)
    (hs : PlainIx idx := by exact fun _ _ => rfl) (hl : names.length ≤ 30 := by decide) (hn : (e :: es).length = n := by rfl)
    (he : starEach (e :: es) X.env = (false, eval e X.env) :: starEach es X.env := by rfl) (hpl : (backTo pos (starEach es X.env)).any (·.1) = false := by rfl) :
    DSs X W [] M' Lb [.Assign [.Name x px] (.List names lp) ap, .Return (some (.Call (.Subscript (.Name x px2) idx sp) (e :: es) [] pos)) rp] (fnsRetS i fns fi g) := by
  obtain ⟨fs, h1, h2, h3⟩ := fns_pa F
  have hfl : fns.length ≤ 30 := by
    have : ∀ {es : List Expr} {fns : List (List PyData → Res PyData)}, FnsOk X k n es fns → fns.length = es.length := by
      intro es fns h
      induction h with
      | nil => rfl
      | cons _ _ _ _ _ ih => rw [List.length_cons, List.length_cons, ih]
    rw [this F]
    exact hl
  have hcall : PE X (.Call (.Subscript (.Name x px2) idx sp) (e :: es) [] pos) (fun σ H Q => ∃ p, σ[i]? = some (some (.ref p)) ∧ H p = some (.lst (fs.map V.ref)) ∧ tD X.K X.mg W (eCallIx fns fi g) σ H Q) := by
    refine ⟨fun pins s σ H Q I ⟨p, hσ, hp, ρ, hρ, h⟩ => ?_⟩
    rw [eval_Call_Sub]
    refine wpAny_bind ?_
    refine thn ((pe_ix ix_list (pe_var (pos := px2) hx hvx hd hcd) hi hs).run pins s σ H (fun v H1 => ∃ f fn, v = .ref f ∧ FnAt X k n fn f ∧ tDA X.K X.mg W (e :: es).length g σ H1 (fun vs H2 => spD X.K X.mg n fn vs H2 Q (WE W σ))) I ?_) fun u s1 ⟨v, H1, I1, r1, f, fn, ev, hf, ht⟩ => ?_
    · refine ⟨.ref p, hσ, ρ, hρ, ?_⟩
      unfold eCallIx at h
      refine (Post.bind h).imp fun vi H2 s2 ⟨di, e1, _, rx, hq⟩ => ?_
      cases di with
      | int z =>
        dsimp only at hq
        by_cases h0 : 0 ≤ z
        · rw [if_pos h0] at hq
          cases hj : fns[z.toNat]? with
          | none => rw [hj] at hq; exact hq.elim
          | some fn =>
            rw [hj] at hq
            dsimp only at hq
            obtain ⟨f, hf1, hf2⟩ := h3 _ _ hj
            rw [dp_int rx]
            have hz : ((z.toNat : Nat) : Int) = z := by omega
            refine ⟨p, _, z, .ref f, rfl, rfl, SqL.of (s2 _ _ hp), ?_, f, fn, rfl, hf2, ρ, hρ.mono s2, ?_⟩
            · rw [← hz]
              exact atI_nat (by rw [List.getElem?_map, hf1]; rfl)
            · refine (PostA.bind hq).imp fun vs H3 _ ⟨ds, _, hl3, s3, r3, q3⟩ => ⟨hl3.trans hn, ds, r3, ?_⟩
              cases e2 : fn ds with
              | ok d => rw [e2] at q3; exact q3
              | err c => rw [e2] at q3; exact q3
              | bad => rw [e2] at q3; exact q3
        · rw [if_neg h0] at hq
          exact hq.elim
      | _ => exact hq.elim
    · subst ev
      cases r1
      obtain ⟨fd, ps, g1, g3, g4⟩ := hf.ex
      refine PySem.W.callWith_K (h₀ := X.base) I.ok.mod.kin g3 (thn (ha.run pos pins s1 σ _ _ I1 ht) fun us s2 ⟨vs, H2, I2, r, q⟩ => ⟨I2.kIn, ?_⟩) he hpl
      exact run_fnS g1 hr g4 (passAt tk σ) I2 r q
  refine pssImp (pss_cons (ps_set hN hx hlx (pe_lst h1) hsw hf) (pss_one (ps_ret hcall))) fun D σ H ⟨G, o, ρ, hmo, R, q⟩ => ?_
  have ho : o = [] := List.map_eq_nil_iff.mp hmo
  subst ho
  have hd0 := R.full
  have sG := R.same
  refine ⟨by rw [List.length_map, h2, sizeLine_eq]; omega, fun p hp => ?_⟩
  have hl' : i < ρ.length := Classical.byContradiction fun z => by
    unfold fnsRetS at q
    rw [if_neg z] at q
    exact q
  unfold fnsRetS at q
  rw [if_pos hl'] at q
  have hlσ : i < σ.length := by rw [← hd0.len]; exact hl'
  have sF : Same H (upd H p (.lst (fs.map V.ref))) := sameUpd hp
  have hdF : DpS X.K (upd H p (.lst (fs.map V.ref))) (σ.set i (some (.ref p))) (ρ.set i none) := by
    refine ⟨by rw [List.length_set, List.length_set]; exact hd0.len, fun j d e => ?_⟩
    by_cases z : i = j
    · subst z
      rw [List.getElem?_set_self hl'] at e
      cases e
    · rw [List.getElem?_set_ne z] at e ⊢
      exact (hd0.mono sF).get j d e
  refine ⟨p, List.getElem?_set_self hlσ, upd_same, ρ.set i none, hdF, ?_⟩
  unfold retS at q
  cases er : eCallIx fns fi g (ρ.set i none) with
  | ok d =>
    rw [er] at q
    exact fun v H' s r => q v H' (sG.trans (sF.trans s)) r
  | err c =>
    rw [er] at q
    obtain ⟨C, m1, m2⟩ := q
    exact ⟨C, m1, fun d H' s => m2 _ H' d (sG.trans (sF.trans s)) (hdF.mono s)⟩
  | bad => rw [er] at q; exact q.elim
/-- nothing is told of these statements -/
theorem ss_bad {X : Cx} {W : WX} {M M' Lb : List Nat} {sts : List Stmt} : DSs X W M M' Lb sts badS := ⟨fun pins s σ H D I ⟨G, o, ρ, hm, R, q⟩ => q.elim⟩
end
end L2.DL
set_option maxHeartbeats 1000000
namespace L2.DL
open PySem PySem.Spec PyProof.Rows

/-! ### (x, ..) * k, a new tuple as data -/
def oRepT : PyData → PyData → Option PyData
  | .tuple xs, .int k => if xs ≠ [] ∧ 2 ≤ k ∧ k ≤ 1000 ∧ xs.length ≤ 1000 then some (.tuple (repD xs k)) else none
  | _, _ => none
def rRepTF (K : PySem.W.Frag) : R2 := fun x y H Q => ∃ (l : Addr) (k : Int) (xs : List V), x = .ref l ∧ y = .int k ∧ SqT K H l xs ∧ xs ≠ [] ∧ 2 ≤ k ∧ k ≤ 1000 ∧ xs.length ≤ 1000 ∧ ∀ (p : Addr) (o : Obj), o.dict = none → H p = none → Q (.ref p) (upd H p (.frz o (.tup (List.replicate k.toNat xs).flatten)))
section
variable {X : Cx}
theorem op_repTF : OpR X (binaryOp .Mult) (rRepTF X.K) := by
  intro pins s σ H x y v u Q I rx ry ⟨l, k, xs, ex, ey, hT, hne, h2k, hk, hlen, q⟩
  subst ex
  subst ey
  cases rx
  obtain ⟨t, rfl⟩ := ry
  obtain ⟨its, r, ⟨⟨cls, dd, data, sl⟩, ho, hc, n, hd⟩, _⟩ := I.tuple hT
  dsimp only at hc hd
  subst hc
  subst hd
  have hil : its.length = xs.length := r.length.symm
  have hsz : its.toArray.size = xs.length := by simp [hil]
  have hpos : 0 < its.length := by
    rw [hil]
    exact List.length_pos_iff.mpr hne
  have hem : its.toArray.isEmpty = false := by
    cases its with
    | nil => simp at hpos
    | cons a b => rfl
  have hmul : ((its.toArray.size : Nat) : Int) * k ≤ 1000000 := by
    rw [hsz]
    have := Int.mul_le_mul_of_nonneg_right (show ((xs.length : Nat) : Int) ≤ 1000 by omega) (show (0 : Int) ≤ k by omega)
    omega
  have hfl : (List.replicate k.toNat its).flatten.length ≤ sizeLine := by
    rw [PyProof.Rows.lm_len_rep_flat, hil, sizeLine_eq]
    have : k.toNat * xs.length ≤ 1000 * 1000 := Nat.mul_le_mul (by omega) hlen
    omega
  have hx1 : (decide (k < -(2 ^ 63)) || decide (k ≥ 2 ^ 63)) = false := by
    rw [Bool.or_eq_false_iff]
    exact ⟨decide_eq_false (by omega), decide_eq_false (by omega)⟩
  have hx2 : (its.toArray.isEmpty || k == 1) = false := by
    rw [Bool.or_eq_false_iff]
    exact ⟨hem, by simp; omega⟩
  have hx3 : (decide (k ≤ 0) || its.toArray.isEmpty) = false := by
    rw [Bool.or_eq_false_iff]
    exact ⟨decide_eq_false (by omega), hem⟩
  have hx4 : Builtin.Tuple.tupleTooMany (((its.toArray.size : Nat) : Int) * k) = false := by
    unfold Builtin.Tuple.tupleTooMany
    rw [sizeLine_eq]
    exact decide_eq_false (by omega)
  have hT1 : s.TypeIs (.ref l) "tuple" := ⟨_, ho, rfl⟩
  refine wpAny_binaryOp_repeat_ref (T := "tuple") (U := "int") (by decide) hT1 (fun s' => typeIs_int s' k t) noFill_tuple_mul F.fills_int_mul F.slot_int_rmul repeat_tuple F.slot_int_index.lookup ?_
  refine call_meets F.slot_int_rmul (typeIs_int s k t) F.entry_int_rmul (F.args_int_rmul_2 _ _) (int_rmul_tuple k t l its.toArray n dd sl) ⟨ho, rfl, hT1, ?_⟩
  refine call_meets F.slot_tuple_mul hT1 F.entry_tuple_mul (F.args_tuple_mul_2 _ _) (tuple_mulW l its.toArray n dd sl k t hx1 hx2 hx3 (by omega) hx4 (by rw [size_rep, List.size_toArray]; exact hfl)) ⟨ho, ?_⟩
  rw [size_rep]
  have hnew := I.hok.fresh (Nat.le_refl _)
  refine ⟨.ref s.heap.objs.size, _, I.laid (t' := s.toks) (o := .frz { cls := .type "tuple", data := .seq (List.replicate k.toNat its).flatten.toArray } (.tup (List.replicate k.toNat xs).flatten)) (fun b ob e => Heap.get?_push_of_some _ e) (Nat.le_refl _) ?_, rfl, q _ _ rfl hnew⟩
  refine ⟨Heap.get?_push_size _ rfl, ?_, _, r.rep k.toNat, IsTup.new _ _⟩
  rw [PyProof.Rows.lm_len_rep_flat, sizeLine_eq]
  have : k.toNat * xs.length ≤ 1000 * 1000 := Nat.mul_le_mul (by omega) hlen
  omega
theorem o2_repT {K : PySem.W.Frag} : Op2 K (rRepTF K) oRepT := fun x y dx dy d H Q rx ry e q => by
  cases dx with
  | tuple ds =>
    cases dy with
    | int k =>
      have e : (if ds ≠ [] ∧ 2 ≤ k ∧ k ≤ 1000 ∧ ds.length ≤ 1000 then some (PyData.tuple (repD ds k)) else none) = some d := e
      by_cases hc : ds ≠ [] ∧ 2 ≤ k ∧ k ≤ 1000 ∧ ds.length ≤ 1000
      · rw [if_pos hc] at e
        cases e
        obtain ⟨a, xs, rfl, hs, hv⟩ := dp_tup rx
        refine ⟨a, k, xs, rfl, dp_int ry, hs, fun z => ?_, hc.2.1, hc.2.2.1, by rw [hv.len]; exact hc.2.2.2, fun p o ho hp => q _ _ (sameUpd hp) (.tup (.inl ⟨o, upd_same, ho⟩) (dpAllMono (sameUpd hp) (dp_rep hv _)))⟩
        have := hv.len
        rw [z] at this
        exact hc.1 (List.eq_nil_of_length_eq_zero this.symm)
      · rw [if_neg hc] at e
        cases e
    | _ => cases e
  | _ => cases e
theorem d_repT {W : WX} {a b : Expr} {fa fb : Ex} {pos : Pos} (ha : DE X W a fa) (hb : DE X W b fb) : DE X W (.BinOp a .Mult b pos) (eOp oRepT fa fb) := d_op op_repTF o2_repT ha hb
end
end L2.DL
set_option maxHeartbeats 1000000
namespace L2.DL
open PySem PySem.Spec PyProof.Rows

/-! ### xs.count(b), xs.index(b), xs a list of bools -/
def rCntB (K : PySem.W.Frag) : V → List V → Hp → VK → Prop := fun x xs H Q => ∃ (p : Addr) (bs : List Bool) (b : Bool), x = .ref p ∧ xs = [.bl b] ∧ SqL K H p (bs.map V.bl) ∧ Q (.int ((bs.count b : Nat) : Int)) H
theorem flat_bls (bs : List Bool) : (bs.map V.bl).all flatV = true := by
  induction bs with
  | nil => rfl
  | cons b bs ih =>
    rw [List.map_cons, List.all_cons, ih]
    rfl
theorem count_bls (b : Bool) : ∀ (bs : List Bool) (its : List Value), Vals (bs.map V.bl) its → its.countP (eqU (.bl b)) = bs.count b
  | [], its, h => by cases h; rfl
  | c :: bs, its, h => by
    cases h with
    | cons h1 h2 =>
      rw [List.countP_cons, count_bls b bs _ h2, eqU_of h1 rfl, List.count_cons]
      rfl
theorem mt_countB {X : Cx} : MtR X "list.count" (rCntB X.K) := by
  intro pins s σ H x xs v us Q I rx rxs ⟨p, bs, b, ex, exs, hs, q⟩
  subst ex
  subst exs
  cases rx
  obtain ⟨u, rfl, ru⟩ := rxs.one
  obtain ⟨its, rv, ⟨⟨cls, dd, data, sl⟩, n, ho, hc, hdn, hd⟩, hlen⟩ := I.list hs
  simp only at hc hd
  subst hc hd
  refine call_meets PySem.F.slot_list_count ⟨_, ho, rfl⟩ PySem.F.entry_list_count (PySem.F.args_list_count_2 _ _)
    (SeqAt.list_countAt p its.toArray n dd sl u (eqU (.bl b))) ⟨ho, fun y hy => mem_eqAt ru rfl rv (flat_bls bs) y (by simpa using hy), ?_⟩
  refine ⟨.int ((bs.count b : Nat) : Int), H, I.tok _, ⟨s.toks, ?_⟩, q⟩
  show Value.int ((its.toArray.toList.countP (eqU (.bl b)) : Nat) : Int) s.toks = Value.int ((bs.count b : Nat) : Int) s.toks
  rw [show its.toArray.toList = its by simp, count_bls b bs its rv]
end L2.DL
set_option maxHeartbeats 1000000
namespace L2.DL
open PySem PySem.Spec PyProof.Rows

/-! ### law k25: which class flew is asked of the caught exception; lists are made and asked in the suite -/
/-- class C is the j-th of the named ones, and a ValueError; the clause's class takes it -/
structure Kind (K : PySem.W.Frag) (CR : Addr) (Ds : List Addr) (C : Addr) (j : Nat) : Prop where
  exm : PySem.W.exmOne K (.ref C) (.ref CR) = some true
  cls : ExcC K C
  val : PySem.W.kitOne K (.ref C) (.type "ValueError") = some true
  own : ∀ (t : Nat) (D : Addr), Ds[t]? = some D → PySem.W.kitOne K (.ref C) (.ref D) = some (decide (t = j))
theorem own6 {K : PySem.W.Frag} {C D0 D1 D2 D3 D4 D5 : Addr} {j : Nat} (k0 : PySem.W.kitOne K (.ref C) (.ref D0) = some (decide (0 = j))) (k1 : PySem.W.kitOne K (.ref C) (.ref D1) = some (decide (1 = j))) (k2 : PySem.W.kitOne K (.ref C) (.ref D2) = some (decide (2 = j)))
    (k3 : PySem.W.kitOne K (.ref C) (.ref D3) = some (decide (3 = j))) (k4 : PySem.W.kitOne K (.ref C) (.ref D4) = some (decide (4 = j))) (k5 : PySem.W.kitOne K (.ref C) (.ref D5) = some (decide (5 = j))) :
    ∀ (t : Nat) (D : Addr), [D0, D1, D2, D3, D4, D5][t]? = some D → PySem.W.kitOne K (.ref C) (.ref D) = some (decide (t = j))
  | 0, _, h => by cases h; exact k0
  | 1, _, h => by cases h; exact k1
  | 2, _, h => by cases h; exact k2
  | 3, _, h => by cases h; exact k3
  | 4, _, h => by cases h; exact k4
  | 5, _, h => by cases h; exact k5
  | _ + 6, _, h => by simp at h
/-- slot ie has the exception, slot ik the number j; then True is handed back -/
def tKind (ie ik : Nat) (a : Addr) (j : Nat) : TS := fun D σ H => σ[ie]? = some (some (.ref a)) ∧ σ[ik]? = some (some (.int (j : Int))) ∧ ∀ H', Same H H' → D.rt (.bl true) H'
abbrev hE (ie : Nat) (a : Addr) (v : V) : TE := fun σ H Q => σ[ie]? = some (some (.ref a)) ∧ Q v H
theorem same2 {H : Hp} {p q : Addr} {o o' o2 : HO} (hp : H p = none) (hq : upd H p o q = none) : Same H (upd (upd (upd H p o) q o2) p o') := fun b u e => by
  have nb : b ≠ p := fun z => by rw [z, hp] at e; cases e
  have h1 : upd H p o b = some u := by rw [upd_ne nb]; exact e
  have nq : b ≠ q := fun z => by rw [z, hq] at h1; cases h1
  rw [upd_ne nb, upd_ne nq]
  exact h1
theorem cnt6 {j : Nat} (hj : j < 5) : ([decide (0 = j), decide (1 = j), decide (2 = j), decide (3 = j), decide (4 = j), decide (5 = j)]).count true = 1 := by
  obtain h | h | h | h | h : j = 0 ∨ j = 1 ∨ j = 2 ∨ j = 3 ∨ j = 4 := by omega
  all_goals (subst h; decide)
theorem at6 {j : Nat} (hj : j < 5) : (([decide (0 = j), decide (1 = j), decide (2 = j), decide (3 = j), decide (4 = j), decide (5 = j)]).map V.bl)[j]? = some (.bl true) := by
  obtain h | h | h | h | h : j = 0 ∨ j = 1 ∨ j = 2 ∨ j = 3 ∨ j = 4 := by omega
  all_goals (subst h; simp)
theorem before6 {j : Nat} (hj : j < 5) (m : Nat) (z : V) (hm : m < j) (hz : (([decide (0 = j), decide (1 = j), decide (2 = j), decide (3 = j), decide (4 = j), decide (5 = j)]).map V.bl)[m]? = some z) : eqV z (.bl true) = false := by
  obtain h | h | h | h | h : j = 0 ∨ j = 1 ∨ j = 2 ∨ j = 3 ∨ j = 4 := by omega
  all_goals
    subst h
    obtain g | g | g | g | g : m = 0 ∨ m = 1 ∨ m = 2 ∨ m = 3 ∨ 4 ≤ m := by omega
    all_goals first
      | omega
      | (subst g; simp at hz; subst hz; rfl)
theorem su_kind {X : Cx} {ie ik io : Nat} {a : Addr} {j : Nat} {s1 s2 s3 : Stmt} (hio : io ≠ ie) (hio2 : io ≠ ik) (hlen : io < X.N.length)
    (h1 : PS X s1 (tAsg (tLst (tCons (hE ie a (.bl (decide (0 = j)))) (tCons (hE ie a (.bl (decide (1 = j)))) (tCons (hE ie a (.bl (decide (2 = j)))) (tCons (hE ie a (.bl (decide (3 = j)))) tNil))))) (gName io)))
    (h2 : PS X s2 (tDrop (tBM X.K "list" rExtend (tVar io) (tCons (tLst (tCons (hE ie a (.bl (decide (4 = j)))) (tCons (hE ie a (.bl (decide (5 = j)))) tNil))) tNil))))
    (h3 : PS X s3 (tRet (tAndV (hE ie a (.bl true)) (tAndV (tOp rEq (tBM X.K "list" (rCntB X.K) (tVar io) (tCons (tC (.bl true)) tNil)) (tC (.int 1))) (tOp rEq (tBM X.K "list" (rIndex X.K) (tVar io) (tCons (tC (.bl true)) tNil)) (tVar ik))))))
    (hj : j < 5) : PSs X [s1, s2, s3] (tKind ie ik a j) := by
  refine ⟨fun pins s σ H D I ⟨he, hk, q⟩ => ?_⟩
  have hlo : io < σ.length := by rw [I.len]; exact hlen
  refine (pss_cons h1 (pss_cons h2 (pss_one h3))).run pins s σ H D I ?_
  · refine ⟨he, he, he, he, by rw [sizeLine_eq]; simp, fun p hp => ?_⟩
    have ge : (σ.set io (some (.ref p)))[ie]? = some (some (.ref a)) := by rw [List.getElem?_set_ne hio]; exact he
    have gk : (σ.set io (some (.ref p)))[ik]? = some (some (.int (j : Int))) := by rw [List.getElem?_set_ne hio2]; exact hk
    have go : (σ.set io (some (.ref p)))[io]? = some (some (.ref p)) := List.getElem?_set_self hlo
    refine ⟨.ref p, go, .inl ⟨rfl, _, .inl (.inl upd_same)⟩, ge, ge, by rw [sizeLine_eq]; simp, fun r hr => ?_⟩
    have npr : p ≠ r := fun z => by rw [z, upd_same] at hr; cases hr
    refine ⟨p, r, _, _, rfl, rfl, by rw [upd_ne npr]; exact upd_same, upd_same, by rw [sizeLine_eq]; simp, ge, true, rfl, ?_⟩
    rw [if_pos rfl]
    have hs : SqL X.K (upd (upd (upd H p (.lst [.bl (decide (0 = j)), .bl (decide (1 = j)), .bl (decide (2 = j)), .bl (decide (3 = j))])) r (.lst [.bl (decide (4 = j)), .bl (decide (5 = j))])) p (.lst ([.bl (decide (0 = j)), .bl (decide (1 = j)), .bl (decide (2 = j)), .bl (decide (3 = j))] ++ [.bl (decide (4 = j)), .bl (decide (5 = j))]))) p
        (([decide (0 = j), decide (1 = j), decide (2 = j), decide (3 = j), decide (4 = j), decide (5 = j)]).map V.bl) := .inl (.inl upd_same)
    have hcnt := cnt6 hj
    refine ⟨.ref p, go, .inl ⟨rfl, _, hs⟩, p, _, true, rfl, rfl, hs, rfl, ?_⟩
    rw [hcnt]
    refine ⟨true, rfl, ?_⟩
    rw [if_pos rfl]
    refine ⟨.ref p, go, .inl ⟨rfl, _, hs⟩, p, _, .bl true, j, .bl true, rfl, rfl, hs, rfl, flat_bls _, ?_, rfl, ?_, _, gk, rfl, ?_⟩
    · exact at6 hj
    · exact before6 hj
    · rw [decide_eq_true rfl]
      exact q _ (same2 hp hr)
/-- the body; where it raises the class that slot ik numbers: True -/
def tryKindS (cs : List Str) (ie ik : Nat) (f : Sf) : Sf := fun ρ => match f ρ with
  | .err c ρ' => if ie < ρ'.length ∧ ik ≠ ie then (match ρ'[ik]? with
    | some (some (.int j)) => if 0 ≤ j ∧ j.toNat < 5 ∧ cs[j.toNat]? = some c then .ret (.bool true) else .bad
    | _ => .bad) else .bad
  | r => r
theorem s_tryKind {X : Cx} {W : WX} {M M' Lb : List Nat} {CR : Addr} {Ds : List Addr} {cs : List Str} {x n : Str} {ie ik : Nat} {body suite : List Stmt} {b₀ : Stmt} {np pos pos' : Pos} {fb : Sf} (hm : X.mg x = some (.ref CR))
    (hkind : ∀ (j : Nat) (c : Str), j < 5 → cs[j]? = some c → ∃ C, X.mg c = some (.ref C) ∧ Kind X.K CR Ds C j)
    (hs : X.stack = X.env :: X.outer) (hf : X.env.frame = some X.env.locals) (hN : X.N.Nodup) (tk : Takes X W)
    (hb : ∀ (W' : WX) (pn : List (Addr × Obj)) (xe : Value → Shared → Prop), Takes (X.tr pn xe) W' → PassesOwn (model X.prog X.w) X.A X.env xe → DSs (X.tr pn xe) W' M M' Lb body fb)
    (hsu : ∀ (a C : Addr) (oe : Obj) (pn : List (Addr × Obj)) (j : Nat), j < 5 → Kind X.K CR Ds C j → Zc (.ref C) none oe → (∃ vs, oe.data = .fields vs) → PSs (X.suite a ((a, oe) :: pn)) (b₀ :: suite) (tKind ie ik a j))
    (hi : X.N[ie]? = some n := by rfl) (hln : X.env.kindOf n = some .local := by rfl) (hg : Gl X x := by rfl) (hdb : (x == ("__debug__" : Str)) = false := by decide) :
    DS X W M M' Lb (.Try body [.ExceptHandler (some (.Name x np)) (some n) (b₀ :: suite) pos'] [] [] pos) (tryKindS cs ie ik fb) := by
  refine psImp (ps_try_as (tb := fun W' => tS X.K X.mg W' M M' Lb fb) (ts := fun a cls dd D σ H => ∃ C j, cls = .ref C ∧ dd = none ∧ j < 5 ∧ Kind X.K CR Ds C j ∧ tKind ie ik a j D σ H) hs hf hN hi hln ⟨hg, hdb, .inl hm⟩ tk hb fun a oe cls dd pn hz hvs => ?_) fun D σ H ⟨G, o, ρ, hmm, R, q⟩ => ⟨G, o, ρ, hmm, R, ?_⟩
  · refine ⟨fun pins s σ H D I ⟨C, j, e1, e2, hj, k, z⟩ => ?_⟩
    subst e1
    subst e2
    exact (hsu a C oe pn j hj k hz hvs).run pins s σ H D I z
  · unfold tryKindS at q
    cases e : fb ρ with
    | err c' ρ' =>
      rw [e] at q
      dsimp only at q
      split at q
      · rename_i hc
        obtain ⟨hil, hne⟩ := hc
        split at q
        · rename_i jj hjj
          split at q
          · rename_i hc2
            obtain ⟨h0, h5, hcs⟩ := hc2
            obtain ⟨C, hC, k⟩ := hkind jj.toNat c' h5 hcs
            refine ⟨C, hC, fun σ' H' d0 s hρ => ?_⟩
            obtain ⟨d0, rfl⟩ := d0
            obtain ⟨v, hv, hd⟩ := hρ.get ik _ hjj
            have hv' := dp_int hd
            subst hv'
            refine ⟨true, k.exm, fun _ a' _ => ⟨C, jj.toNat, rfl, rfl, h5, k, ?_, ?_, fun H2 s2 => q _ H2 (s.trans s2) (.bl _)⟩, fun z => by cases z⟩
            · have : ie < σ'.length := by rw [← hρ.len]; exact hil
              simp [this]
            · rw [List.getElem?_set_ne (Ne.symm hne), hv, Int.toNat_of_nonneg h0]
          · exact q.elim
        · exact q.elim
      · exact q.elim
    | nx ρ' => rw [e] at q; exact q
    | brk ρ' => rw [e] at q; exact q
    | cnt ρ' => rw [e] at q; exact q
    | ret d' => rw [e] at q; exact q
    | bad => rw [e] at q; exact q.elim
end L2.DL
set_option maxHeartbeats 1000000
namespace L2.DL
open PySem PySem.Spec PyProof.Rows

/-! ### what a try with a suite of its own does to data (H4 carries it where its suite calls defs) -/
/-- the body; where it raises x: the suite, which raises nothing -/
def tryS (x : Str) (fb fs : Sf) : Sf := fun ρ => match fb ρ with
  | .err c ρ' => if c = x then (match fs ρ' with
    | .err _ _ => .bad
    | r => r) else .bad
  | r => r
end L2.DL
set_option maxHeartbeats 2000000
namespace L2.DL
open PySem PySem.Spec PyProof.Rows
noncomputable def m_is_whole : List PyData → Res PyData := runD 1 (retS (eAnd (eCall1 isaInt (eVar 0)) (eNot (eCall1 isaBool (eVar 0)))))
noncomputable def m_between : List PyData → Res PyData := runD 3 (retS (eAnd (eCall m_is_whole (aCons (eVar 0) aNil)) (bE (eChain oLe oLe (eVar 1) (eVar 0) (eVar 2)))))
noncomputable def m_is_part : List PyData → Res PyData := runD 1 (seqS (ifS (teOr (teNot (eB (eCall1 isaTuple (eVar 0)))) (teOr (eB (eOp oNe (eCall1 oLen (eVar 0)) (eC (.int 2)))) (teNot (eB (eCall m_between (aCons (eOp oIx (eVar 0) (eC (.int 0))) (aCons (eC (.int 1)) (aCons (eC (.int 20)) aNil)))))))) (retS (eC (.bool false))) nxS) (retS (eOr (eOp oIs (eOp oIx (eVar 0) (eC (.int 1))) (eC .none)) (eCall m_between (aCons (eOp oIx (eVar 0) (eC (.int 1))) (aCons (eC (.int 0)) (aCons (eOp oSub (eC (.int 4)) (eC (.int 1))) aNil)))))))
noncomputable def m_is_errand : List PyData → Res PyData := runD 2 (seqS (ifS (teOr (teNot (eB (eCall1 isaTuple (eVar 0)))) (teOr (eB (eOp oNe (eCall1 oLen (eVar 0)) (eC (.int 4)))) (teNot (eB (eCall m_between (aCons (eOp oIx (eVar 0) (eC (.int 0))) (aCons (eC (.int 2)) (aCons (eC (.int 60)) aNil)))))))) (retS (eC (.bool false))) nxS) (seqS (ifS (teOr (teNot (eB (eCall m_between (aCons (eOp oIx (eVar 0) (eC (.int 2))) (aCons (eC (.int 0)) (aCons (eCall2 oMin (eC (.int 20)) (eOp oSub (eOp oIx (eVar 0) (eC (.int 0))) (eC (.int 1)))) aNil)))))) (teNot (eB (eCall m_between (aCons (eOp oIx (eVar 0) (eC (.int 1))) (aCons (eC (.int 1)) (aCons (eOp oSub (eOp oIx (eVar 0) (eC (.int 0))) (eOp oIx (eVar 0) (eC (.int 2)))) aNil))))))) (retS (eC (.bool false))) nxS) (seqS (ifS (teOr (teNot (eB (eCall1 isaTuple (eOp oIx (eVar 0) (eC (.int 3)))))) (teNot (eChain oLe oLe (eC (.int 1)) (eCall1 oLen (eOp oIx (eVar 0) (eC (.int 3)))) (eC (.int 4))))) (retS (eC (.bool false))) nxS) (retS (eAnd (eCall1 oAll (eComp (itSq (eOp oIx (eVar 0) (eC (.int 3)))) (.one 1) teYes (eCall m_is_part (aCons (eVar 1) aNil)))) (eOp oIs (eOp oIx (eOp oIx (eOp oIx (eVar 0) (eC (.int 3))) (eUn oNeg (eC (.int 1)))) (eC (.int 1))) (eC .none)))))))
noncomputable def m_are_errands : List PyData → Res PyData := runD 2 (seqS (ifS (teOr (teNot (eB (eCall1 isaTuple (eVar 0)))) (teNot (eChain oLe oLe (eC (.int 1)) (eCall1 oLen (eVar 0)) (eC (.int 6))))) (retS (eC (.bool false))) nxS) (retS (eCall1 oAll (eComp (itSq (eVar 0)) (.one 1) teYes (eCall m_is_errand (aCons (eVar 1) aNil))))))
noncomputable def m_checked : List PyData → Res PyData := runD 1 (seqS (ifS (teNot (eB (eCall m_are_errands (aCons (eVar 0) aNil)))) (raiseS "NoErrands") nxS) (retS (eVar 0)))
noncomputable def m_need_ranks : List PyData → Res PyData := runD 3 (seqS (exprS (eCall m_checked (aCons (eVar 0) aNil))) (seqS (ifS (teOr (teNot (eB (eCall1 isaTuple (eVar 1)))) (teNot (eB (eCall1 oAll (eComp (itSq (eVar 1)) (.one 2) teYes (eCall m_is_whole (aCons (eVar 2) aNil))))))) (raiseS "NoRanks") nxS) (ifS (eB (eOp oNe (eCall1 oSorted (eCall1 oList (eVar 1))) (eLstR1 (eCall1 oLen (eVar 0))))) (raiseS "NoRanks") nxS)))
noncomputable def m_has_tool : List PyData → Res PyData := runD 3 (retS (eOp oIn (eVar 1) (eComp (itSq (eOp oIx (eVar 0) (eC (.int 3)))) (.one 2) teYes (eOp oIx (eVar 2) (eC (.int 1))))))
noncomputable def m_heights_of : List PyData → Res PyData := runD 6 (seqS (newS [] 2 (nLst aNil)) (seqS (forS [2] (itR1 (eC (.int 4))) (.one 3) (seqS (setS [2] 4 (fun ρ => eComp (itR1 (eCall1 oLen (eVar 1))) (.one 5) (eB (eCall m_has_tool (aCons (eOp oIx (eVar 0) (eOp oIx (eVar 1) (eVar 5))) (aCons (eVar 3) aNil)))) (eVar 5) (wipeD ρ [2]))) (appS [2] 2 (fun ρ => (eOp oIx (eOp oCatL (eVar 4) (eLst (aCons (eC .none) aNil))) (eC (.int 0))) (wipeD ρ [2]))))) (retS (eVar 2))))
noncomputable def m_heights : List PyData → Res PyData := runD 2 (seqS (exprS (eCall m_need_ranks (aCons (eVar 0) (aCons (eVar 1) aNil)))) (retS (eCall m_heights_of (aCons (eVar 0) (aCons (eVar 1) aNil)))))
noncomputable def m__law_cell_at : List PyData → Res PyData := runD 2 (seqS (ifS (eB (eOp oLt (eVar 1) (eCall1 oLen (eVar 0)))) (retS (eOp oIx (eVar 0) (eVar 1))) nxS) (seqS (ifS (eB (eOp oEq (eVar 0) (eLst aNil))) (retS (eC (.int 0))) nxS) (retS (eOp oAdd (eOp oMul (eOp oIx (eVar 0) (eOp oMod (eVar 1) (eCall1 oLen (eVar 0)))) (eC (.int 31))) (eVar 1)))))
noncomputable def m__law_mixed : List PyData → Res PyData := runD 4 (seqS (setS [] 3 (eOp oMod (eOp oMul (eOp oAdd (eOp oAdd (eCall m__law_cell_at (aCons (eVar 0) (aCons (eVar 1) aNil))) (eOp oMul (eC (.int 7919)) (eVar 1))) (eC (.int 1))) (eC (.int 48271))) (eC (.int 2147483647)))) (retS (eOp oMod (eOp oMod (eOp oAdd (eOp oAdd (eOp oMul (eVar 3) (eVar 3)) (eOp oMul (eC (.int 7)) (eVar 3))) (eVar 1)) (eC (.int 2147483629))) (eVar 2))))
noncomputable def m__law_errand : List PyData → Res PyData := runD 10 (seqS (setS [] 4 (eOp oAdd (eC (.int 3)) (eCall m__law_mixed (aCons (eVar 0) (aCons (eVar 1) (aCons (eVar 2) aNil)))))) (seqS (setS [] 5 (eOp oMul (eCall m__law_mixed (aCons (eVar 0) (aCons (eOp oAdd (eVar 1) (eC (.int 1))) (aCons (eC (.int 4)) aNil)))) (eCall1 oInt (eOp oEq (eCall m__law_mixed (aCons (eVar 0) (aCons (eOp oAdd (eVar 1) (eC (.int 2))) (aCons (eC (.int 3)) aNil)))) (eC (.int 0)))))) (seqS (setS [] 5 (eCall2 oMin (eVar 5) (eOp oSub (eVar 4) (eC (.int 1))))) (seqS (setS [] 6 (eOp oSub (eVar 4) (eVar 5))) (seqS (ifS (eB (eOp oEq (eCall m__law_mixed (aCons (eVar 0) (aCons (eOp oAdd (eVar 1) (eC (.int 1))) (aCons (eC (.int 3)) aNil)))) (eC (.int 0)))) (setS [] 6 (eOp oSub (eVar 6) (eCall m__law_mixed (aCons (eVar 0) (aCons (eOp oAdd (eVar 1) (eC (.int 2))) (aCons (eVar 6) aNil)))))) nxS) (seqS (newS [] 7 (nLst aNil)) (seqS (forS [7] (itR1 (eCall m__law_mixed (aCons (eVar 0) (aCons (eOp oAdd (eVar 1) (eC (.int 3))) (aCons (eC (.int 3)) aNil))))) (.one 8) (seqS (setS [7] 9 (fun ρ => (eCall m__law_mixed (aCons (eVar 0) (aCons (eOp oAdd (eOp oAdd (eVar 1) (eC (.int 4))) (eVar 8)) (aCons (eC (.int 40)) aNil)))) (wipeD ρ [7]))) (seqS (appS [7] 7 (fun ρ => (eTup (aCons (eOp oAdd (eC (.int 1)) (eOp oMod (eVar 9) (eC (.int 4)))) (aCons (eOp oIx (eLst (aCons (eC (.int 0)) (aCons (eC (.int 1)) (aCons (eC (.int 1)) (aCons (eC (.int 0)) (aCons (eC .none) aNil)))))) (eOp oMod (eOp oDiv (eVar 9) (eC (.int 4))) (eC (.int 5)))) aNil))) (wipeD ρ [7]))) (ifS (teNot (eB (eVar 3))) (putS [7] 7 (eUn oNeg (eC (.int 1))) (fun ρ => ((eTup (aCons (eOp oIx (eOp oIx (eVar 7) (eUn oNeg (eC (.int 1)))) (eC (.int 0))) (aCons (eC .none) aNil))) ρ).bind scal)) nxS)))) (retS (eTup (aCons (eVar 4) (aCons (eVar 6) (aCons (eVar 5) (aCons (eCall1 oTuple (eOp oCatL (eVar 7) (eLst (aCons (eTup (aCons (eOp oAdd (eC (.int 1)) (eCall m__law_mixed (aCons (eVar 0) (aCons (eOp oAdd (eVar 1) (eC (.int 6))) (aCons (eC (.int 3)) aNil))))) (aCons (eC .none) aNil))) aNil)))) aNil)))))))))))))
noncomputable def m__law_errands : List PyData → Res PyData := runD 7 (seqS (setS [] 5 (eOp oAdd (eC (.int 1)) (eCall m__law_mixed (aCons (eVar 0) (aCons (eVar 1) (aCons (eVar 2) aNil)))))) (retS (eCall1 oTuple (eComp (itR1 (eVar 5)) (.one 6) teYes (eCall m__law_errand (aCons (eVar 0) (aCons (eOp oAdd (eOp oAdd (eVar 1) (eC (.int 1))) (eOp oMul (eC (.int 7)) (eVar 6))) (aCons (eVar 3) (aCons (eVar 4) aNil)))))))))
noncomputable def m__law_ranks : List PyData → Res PyData := runD 6 (seqS (newS [] 3 (nR1 (eVar 2))) (seqS (newS [3] 4 (nLst aNil)) (seqS (forS [4, 3] (itR1 (eVar 2)) (.one 5) (popAppS 4 3 (eCall m__law_mixed (aCons (eVar 0) (aCons (eOp oAdd (eVar 1) (eVar 5)) (aCons (eCall1 oLen (eVar 3)) aNil)))))) (retS (eCall1 oTuple (eVar 4))))))
noncomputable def m__law_heights : List PyData → Res PyData := runD 6 (seqS (newS [] 2 (nLst (aCons (eC .none) (aCons (eC .none) (aCons (eC .none) (aCons (eC .none) aNil)))))) (seqS (forS [2] (itR3 (eOp oSub (eCall1 oLen (eVar 1)) (eC (.int 1))) (eUn oNeg (eC (.int 1))) (eUn oNeg (eC (.int 1)))) (.one 3) (forS [2] (itSq (eOp oIx (eOp oIx (eVar 0) (eOp oIx (eVar 1) (eVar 3))) (eC (.int 3)))) (.tup [4, 5]) (ifS (eB (eOp oIsNot (eVar 5) (eC .none))) (putS [2] 2 (eVar 5) (fun ρ => (eVar 3) (wipeD ρ [2]))) nxS))) (retS (eVar 2))))
noncomputable def m__law_told : List PyData → Res PyData := runD 3 (tryRetS "NoRanks" 2 (.str "none") (retS (eCall m_heights (aCons (eVar 0) (aCons (eVar 1) aNil)))))
noncomputable def m_law_k02 : List PyData → Res PyData := runD 4 (seqS (setS [] 1 (eCall m__law_errands (aCons (eVar 0) (aCons (eC (.int 8)) (aCons (eC (.int 4)) (aCons (eC (.int 28)) (aCons (eC (.bool true)) aNil))))))) (seqS (setS [] 2 (eCall m__law_ranks (aCons (eVar 0) (aCons (eC (.int 0)) (aCons (eCall1 oLen (eVar 1)) aNil))))) (seqS (ifS (eB (eOp oNe (eCall m__law_told (aCons (eVar 1) (aCons (eVar 2) aNil))) (eCall m__law_heights (aCons (eVar 1) (aCons (eVar 2) aNil))))) (retS (eC (.bool false))) nxS) (seqS (newS [] 3 (nLst (aCons (eCall1 oList (eVar 2)) (aCons (eOp oCatT (eVar 2) (eSlice (eVar 2) ptNo (ptSome (eC (.int 1))))) (aCons (eSlice (eVar 2) (ptSome (eC (.int 1))) ptNo) (aCons (eOp oCatT (eSlice (eVar 2) ptNo (ptSome (eUn oNeg (eC (.int 1))))) (eTup (aCons (eCall1 oLen (eVar 2)) aNil))) (aCons (eOp oCatT (eSlice (eVar 2) ptNo (ptSome (eUn oNeg (eC (.int 1))))) (eTup (aCons (eUn oNeg (eC (.int 1))) aNil))) (aCons (eC .none) (aCons (eC (.int 0)) aNil))))))))) (seqS (extS [3] 3 (fun ρ => (eLst (aCons (eOp oCatT (eSlice (eVar 2) ptNo (ptSome (eUn oNeg (eC (.int 1))))) (eTup (aCons (eCall1 oStr (eOp oIx (eVar 2) (eUn oNeg (eC (.int 1))))) aNil))) (aCons (eOp oCatT (eTup (aCons (eC (.bool true)) aNil)) (eSlice (eVar 2) (ptSome (eC (.int 1))) ptNo)) (aCons (eOp oCatT (eSlice (eVar 2) ptNo (ptSome (eUn oNeg (eC (.int 1))))) (eTup (aCons (eC .none) aNil))) (aCons (eOp oCatT (eVar 2) (eTup (aCons (eCall1 oLen (eVar 2)) aNil))) aNil))))) (wipeD ρ [3]))) (retS (eOp oEq (eCall m__law_told (aCons (eVar 1) (aCons (eOp oIx (eVar 3) (eCall m__law_mixed (aCons (eVar 0) (aCons (eC (.int 6)) (aCons (eC (.int 11)) aNil))))) aNil))) (eC (.str "none")))))))))
noncomputable def m_are_comings : List PyData → Res PyData := runD 5 (seqS (ifS (teOr (teNot (eB (eCall1 isaList (eVar 1)))) (teOr (eB (eOp oGt (eCall1 oLen (eVar 1)) (eC (.int 60)))) (teNot (eB (eCall1 oAll (eComp (itSq (eVar 1)) (.one 4) teYes (eCall m_between (aCons (eVar 4) (aCons (eC (.int 0)) (aCons (eC (.int 9999)) aNil)))))))))) (retS (eC (.bool false))) nxS) (seqS (setS [] 2 (eUn oNeg (eC (.int 99)))) (seqS (forS [] (itR1 (eCall1 oLen (eVar 1))) (.one 3) (seqS (ifS (teAnd (eB (eOp oGt (eVar 3) (eC (.int 0)))) (eB (eOp oLe (eOp oIx (eVar 1) (eVar 3)) (eOp oIx (eVar 1) (eOp oSub (eVar 3) (eC (.int 1))))))) (retS (eC (.bool false))) nxS) (seqS (setS [] 2 (eCall2 oMax (eOp oAdd (eVar 2) (eOp oIx (eVar 0) (eC (.int 0)))) (eOp oSub (eOp oIx (eVar 1) (eVar 3)) (eOp oIx (eVar 0) (eC (.int 2)))))) (ifS (eB (eOp oGt (eVar 2) (eOp oIx (eVar 1) (eVar 3)))) (retS (eC (.bool false))) nxS)))) (retS (eC (.bool true))))))
noncomputable def m_need_comings : List PyData → Res PyData := runD 4 (seqS (ifS (teOr (teNot (eB (eCall1 isaList (eVar 1)))) (eB (eOp oNe (eCall1 oLen (eVar 1)) (eCall1 oLen (eVar 0))))) (raiseS "NoComings") nxS) (ifS (teNot (eB (eCall1 oAll (eComp (itZipTL (eVar 0) (eVar 1)) (.tup [2, 3]) teYes (eCall m_are_comings (aCons (eVar 2) (aCons (eVar 3) aNil))))))) (raiseS "NoComings") nxS))
noncomputable def m_checked_comings : List PyData → Res PyData := runD 3 (seqS (exprS (eCall m_checked (aCons (eVar 0) aNil))) (seqS (exprS (eCall m_need_comings (aCons (eVar 0) (aCons (eVar 1) aNil)))) (retS (eComp (itSq (eVar 1)) (.one 2) teYes (eCall1 oList (eVar 2))))))
noncomputable def m__law_coming_row : List PyData → Res PyData := runD 10 (seqS (setS [] 4 (eCall m__law_mixed (aCons (eVar 0) (aCons (eVar 1) (aCons (eOp oPow (eC (.int 10)) (eC (.int 9))) aNil))))) (seqS (setS [] 5 (eOp oSub (eOp oMod (eVar 4) (eOp oAdd (eOp oIx (eVar 2) (eC (.int 0))) (eC (.int 2)))) (eOp oIx (eVar 2) (eC (.int 2))))) (seqS (newS [] 6 (nLst aNil)) (seqS (setS [6] 7 (fun ρ => (eC (.int 0)) (wipeD ρ [6]))) (seqS (whileS (teAnd (eB (eOp oLt (eOp oAdd (eVar 5) (eOp oIx (eVar 2) (eC (.int 2)))) (eVar 3))) (eB (eOp oLt (eCall1 oLen (eVar 6)) (eC (.int 60))))) (seqS (setS [6] 8 (fun ρ => (eOp oMod (eOp oMul (eOp oAdd (eOp oAdd (eVar 4) (eOp oMul (eOp oMul (eC (.int 104729)) (eVar 7)) (eVar 7))) (eOp oMul (eC (.int 7919)) (eVar 7))) (eC (.int 48271))) (eC (.int 2147483647))) (wipeD ρ [6]))) (seqS (setS [6] 9 (fun ρ => (eCall2 oMax (eC (.int 0)) (eOp oAdd (eVar 5) (eOp oMod (eOp oDiv (eVar 8) (eC (.int 7))) (eOp oAdd (eOp oIx (eVar 2) (eC (.int 2))) (eC (.int 1)))))) (wipeD ρ [6]))) (seqS (ifS (eB (eOp oNe (eVar 6) (eLst aNil))) (setS [6] 9 (fun ρ => ((eCall2 oMax (eVar 9) (eOp oAdd (eOp oIx (eVar 6) (eUn oNeg (eC (.int 1)))) (eC (.int 1)))) ρ).bind scal)) nxS) (seqS (appS [6] 6 (fun ρ => (eVar 9) (wipeD ρ [6]))) (seqS (setS [6] 5 (fun ρ => (eOp oAdd (eVar 5) (eOp oIx (eVar 2) (eC (.int 0)))) (wipeD ρ [6]))) (seqS (ifS (eB (eOp oEq (eOp oMod (eOp oDiv (eVar 8) (eC (.int 61))) (eC (.int 3))) (eC (.int 0)))) (setS [6] 5 (fun ρ => (eOp oAdd (eVar 5) (eOp oMod (eOp oDiv (eVar 8) (eC (.int 997))) (eOp oIx (eVar 2) (eC (.int 0))))) (wipeD ρ [6]))) nxS) (setS [6] 7 (fun ρ => (eOp oAdd (eVar 7) (eC (.int 1))) (wipeD ρ [6])))))))))) (retS (eVar 6)))))))
noncomputable def m__law_comings : List PyData → Res PyData := runD 5 (retS (eComp (itR1 (eCall1 oLen (eVar 2))) (.one 4) teYes (eCall m__law_coming_row (aCons (eVar 0) (aCons (eOp oAdd (eVar 1) (eVar 4)) (aCons (eOp oIx (eVar 2) (eVar 4)) (aCons (eVar 3) aNil)))))))
noncomputable def m__law_are_comings : List PyData → Res PyData := runD 5 (seqS (setS [] 2 (eUn oNeg (eC (.int 1000)))) (seqS (setS [] 3 (eUn oNeg (eC (.int 1)))) (seqS (forS [] (itSq (eVar 1)) (.one 4) (seqS (ifS (teOr (eB (eCall1 isaBool (eVar 4))) (teOr (teNot (eB (eCall1 isaInt (eVar 4)))) (teOr (eB (eOp oLe (eVar 4) (eVar 3))) (eB (eOp oGt (eVar 4) (eC (.int 9999))))))) (retS (eC (.bool false))) nxS) (seqS (setS [] 2 (eCall2 oMax (eOp oAdd (eVar 2) (eOp oIx (eVar 0) (eC (.int 0)))) (eOp oSub (eVar 4) (eOp oIx (eVar 0) (eC (.int 2)))))) (seqS (ifS (eB (eOp oGt (eVar 2) (eVar 4))) (retS (eC (.bool false))) nxS) (setS [] 3 (eVar 4)))))) (retS (eOp oLe (eCall1 oLen (eVar 1)) (eC (.int 60)))))))
noncomputable def m__law_told_k03 : List PyData → Res PyData := runD 3 (tryRetS "NoComings" 2 (.str "none") (retS (eCall m_checked_comings (aCons (eVar 0) (aCons (eVar 1) aNil)))))
noncomputable def m__law_are_all : List PyData → Res PyData := runD 4 (seqS (ifS (teOr (teNot (eB (eCall1 isaList (eVar 1)))) (eB (eOp oNe (eCall1 oLen (eVar 1)) (eCall1 oLen (eVar 0))))) (retS (eC (.bool false))) nxS) (seqS (forS [] (itZipTL (eVar 0) (eVar 1)) (.tup [2, 3]) (ifS (teOr (teNot (eB (eCall1 isaList (eVar 3)))) (teNot (eB (eCall m__law_are_comings (aCons (eVar 2) (aCons (eVar 3) aNil)))))) (retS (eC (.bool false))) nxS)) (retS (eC (.bool true)))))
noncomputable def m_Job_tool : List PyData → Res PyData := runD 1 (retS (eOp oIx (eOp oIx (eFld "Job" "parts" (eVar 0)) (eFld "Job" "part" (eVar 0))) (eC (.int 1))))
noncomputable def m_Job_holds : List PyData → Res PyData := runD 1 (seqS (ifS (eB (eOp oEq (eFld "Job" "spent" (eVar 0)) (eC (.int 0)))) (retS (eC .none)) nxS) (retS (eMeth "Job" "tool" m_Job_tool (eVar 0) aNil)))
noncomputable def m_Job_is_done : List PyData → Res PyData := runD 1 (retS (eOp oEq (eFld "Job" "part" (eVar 0)) (eCall1 oLen (eFld "Job" "parts" (eVar 0)))))
noncomputable def m_Hand_first_ones : List PyData → Res PyData := runD 3 (retS (eComp (itSq (eFld "Hand" "queues" (eVar 0))) (.one 2) (teAnd (eB (eOp oNeNil (eVar 2) (eLst aNil))) (eB (eOp oLe (eFld "Job" "come" (eOp oIx (eVar 2) (eC (.int 0)))) (eVar 1)))) (eOp oIx (eVar 2) (eC (.int 0)))))
noncomputable def m_Hand_rank : List PyData → Res PyData := runD 2 (retS (eTupIx (eFld "Hand" "ranks" (eVar 0)) (eFld "Job" "errand" (eVar 1))))
noncomputable def m_Hand_waits : List PyData → Res PyData := runD 4 (seqS (ifS (teOr (eB (eOp oEq (eFld "Hand" "lending" (eVar 0)) (eC (.str "high")))) (teOr (eB (eOp oGt (eFld "Job" "spent" (eVar 1)) (eC (.int 0)))) (eB (eOp oIs (eMeth "Job" "tool" m_Job_tool (eVar 1) aNil) (eC .none))))) (retS (eC (.bool false))) nxS) (retS (eOp oIn (eMeth "Job" "tool" m_Job_tool (eVar 1) aNil) (eComp (itSq (eVar 2)) (.one 3) teYes (eMeth "Job" "holds" m_Job_holds (eVar 3) aNil)))))
noncomputable def m_Hand_height : List PyData → Res PyData := runD 5 (seqS (ifS (teOr (eB (eOp oIs (eMeth "Job" "holds" m_Job_holds (eVar 1) aNil) (eC .none))) (eB (eOp oEq (eFld "Hand" "lending" (eVar 0)) (eC (.str "none"))))) (retS (eMeth "Hand" "rank" m_Hand_rank (eVar 0) (aCons (eVar 1) aNil))) nxS) (seqS (ifS (eB (eOp oEq (eFld "Hand" "lending" (eVar 0)) (eC (.str "high")))) (retS (eCall2 oMin (eMeth "Hand" "rank" m_Hand_rank (eVar 0) (aCons (eVar 1) aNil)) (eOp oIx (eFld "Hand" "heights" (eVar 0)) (eMeth "Job" "holds" m_Job_holds (eVar 1) aNil)))) nxS) (seqS (setS [] 3 (fun ρ => eComp (itSq (eVar 2)) (.one 4) (teAnd (eB (eMeth "Hand" "waits" m_Hand_waits (eVar 0) (aCons (eVar 4) (aCons (eVar 2) aNil)))) (eB (eOp oEq (eMeth "Job" "tool" m_Job_tool (eVar 4) aNil) (eMeth "Job" "holds" m_Job_holds (eVar 1) aNil)))) (eVar 4) (wipeD ρ []))) (retS (eCall1 oMinL (eComp (itSq (eOp oCatL (eLst (aCons (eVar 1) aNil)) (eVar 3))) (.one 4) teYes (eMeth "Hand" "rank" m_Hand_rank (eVar 0) (aCons (eVar 4) aNil))))))))
noncomputable def m_Hand_choose : List PyData → Res PyData := runD 5 (seqS (setS [] 2 (eMeth "Hand" "first_ones" m_Hand_first_ones (eVar 0) (aCons (eVar 1) aNil))) (seqS (newS [] 3 (nLst aNil)) (seqS (forS [3] (itR1 (eCall1 oLen (eVar 2))) (.one 4) (ifS (teNot (eB (eMeth "Hand" "waits" m_Hand_waits (eVar 0) (aCons (eOp oIx (eVar 2) (eVar 4)) (aCons (eVar 2) aNil))))) (appS [3] 3 (fun ρ => (eTup (aCons (eMeth "Hand" "height" m_Hand_height (eVar 0) (aCons (eOp oIx (eVar 2) (eVar 4)) (aCons (eVar 2) aNil))) (aCons (eCall1 oInt (eOp oIs (eMeth "Job" "holds" m_Job_holds (eOp oIx (eVar 2) (eVar 4)) aNil) (eC .none))) (aCons (eVar 4) aNil)))) (wipeD ρ [3]))) nxS)) (seqS (ifS (eB (eOp oEqNil (eVar 3) (eLst aNil))) (retS (eC .none)) nxS) (retS (eOp oIx (eVar 2) (eOp oIx (eCall1 oMinT (eVar 3)) (eC (.int 2)))))))))
noncomputable def m_Hand_is_left : List PyData → Res PyData := runD 2 (retS (eCall1 oAny (eComp (itSq (eFld "Hand" "queues" (eVar 0))) (.one 1) teYes (eOp oNeNil (eVar 1) (eLst aNil)))))
noncomputable def m__law_at : List PyData → Res PyData := runD 4 (seqS (forS [] (itEnumT (eOp oIx (eVar 0) (eC (.int 3)))) (.tup [2, 3]) (seqS (ifS (eB (eOp oLt (eVar 1) (eOp oIx (eVar 3) (eC (.int 0))))) (retS (eTup (aCons (eVar 2) (aCons (eOp oIx (eVar 3) (eC (.int 1))) (aCons (eVar 1) aNil))))) nxS) (setS [] 1 (eOp oSub (eVar 1) (eOp oIx (eVar 3) (eC (.int 0))))))) (retS (eTup (aCons (eCall1 oLen (eOp oIx (eVar 0) (eC (.int 3)))) (aCons (eC .none) (aCons (eC (.int 0)) aNil))))))
noncomputable def m__law_held : List PyData → Res PyData := runD 8 (seqS (newDS [] 3) (seqS (forS [3] (itSq (eVar 2)) (.one 4) (seqS (asgS [3] (.tup [5, 6, 7]) (fun ρ => (eCall m__law_at (aCons (eOp oIx (eVar 0) (eVar 4)) (aCons (eOp oIx (eVar 1) (eVar 4)) aNil))) (wipeD ρ [3]))) (ifS (teAnd (eB (eOp oGt (eVar 7) (eC (.int 0)))) (eB (eOp oIsNot (eVar 6) (eC .none)))) (dputS [3] 3 (eVar 6) (fun ρ => (eVar 4) (wipeD ρ [3]))) nxS))) (retS (eVar 3))))
noncomputable def m_need_errand : List PyData → Res PyData := runD 2 (ifS (teNot (eB (eCall m_between (aCons (eVar 1) (aCons (eC (.int 0)) (aCons (eOp oSub (eCall1 oLen (eVar 0)) (eC (.int 1))) aNil)))))) (raiseS "NoErrand") nxS)
noncomputable def m_hold_of : List PyData → Res PyData := runD 9 (seqS (setS [] 3 (eTupIx (eVar 1) (eVar 2))) (seqS (setS [] 4 (eCall m_heights_of (aCons (eVar 0) (aCons (eVar 1) aNil)))) (seqS (newS [] 5 (nLst (aCons (eC (.int 0)) aNil))) (seqS (forS [5] (itSq (eSlice (eVar 1) (ptSome (eOp oAdd (eVar 3) (eC (.int 1)))) ptNo)) (.one 6) (forS [5] (itSq (eOp oIx (eOp oIx (eVar 0) (eVar 6)) (eC (.int 3)))) (.tup [7, 8]) (ifS (teAnd (eB (eOp oIsNot (eVar 8) (eC .none))) (eB (eOp oLe (eOp oIx (eVar 4) (eVar 8)) (eVar 3)))) (appS [5] 5 (fun ρ => (eOp oSub (eVar 7) (eC (.int 1))) (wipeD ρ [5]))) nxS))) (retS (eCall1 oMaxL (eVar 5)))))))
noncomputable def m_hold : List PyData → Res PyData := runD 3 (seqS (exprS (eCall m_need_ranks (aCons (eVar 0) (aCons (eVar 1) aNil)))) (seqS (exprS (eCall m_need_errand (aCons (eVar 0) (aCons (eVar 2) aNil)))) (retS (eCall m_hold_of (aCons (eVar 0) (aCons (eVar 1) (aCons (eVar 2) aNil)))))))
noncomputable def m__law_parts_done : List PyData → Res PyData := runD 9 (seqS (newS [] 2 (eCompL (itSq (eVar 0)) (.one 8) teYes (eC (.int 0)))) (seqS (newS [2] 3 (nLst aNil)) (seqS (forS [3, 2] (itSq (eVar 1)) (.one 4) (ifS (eB (eOp oIs (eVar 4) (eC .none))) (appS [3, 2] 3 (fun ρ => (eC .none) (wipeD ρ [3, 2]))) (seqS (asgS [3, 2] (.tup [5, 6, 7]) (fun ρ => ((eCall m__law_at (aCons (eOp oIx (eVar 0) (eOp oIx (eVar 4) (eC (.int 0)))) (aCons (eOp oIx (eVar 2) (eOp oIx (eVar 4) (eC (.int 0)))) aNil))) ρ).bind scal)) (seqS (appS [3, 2] 3 (fun ρ => (eTup (aCons (eOp oIx (eVar 4) (eC (.int 0))) (aCons (eOp oIx (eVar 4) (eC (.int 1))) (aCons (eVar 5) (aCons (eVar 6) aNil))))) (wipeD ρ [3, 2]))) (seqS (putS [3, 2] 2 (eOp oIx (eVar 4) (eC (.int 0))) (fun ρ => ((eOp oAdd (eOp oIx (eVar 2) (eOp oIx (eVar 4) (eC (.int 0)))) (eC (.int 1))) ρ).bind scal)) (ifS (eB (eOp oEq (eOp oIx (eCall m__law_at (aCons (eOp oIx (eVar 0) (eOp oIx (eVar 4) (eC (.int 0)))) (aCons (eOp oIx (eVar 2) (eOp oIx (eVar 4) (eC (.int 0)))) aNil))) (eC (.int 0))) (eCall1 oLen (eOp oIx (eOp oIx (eVar 0) (eOp oIx (eVar 4) (eC (.int 0)))) (eC (.int 3)))))) (putS [3, 2] 2 (eOp oIx (eVar 4) (eC (.int 0))) (fun ρ => (eC (.int 0)) (wipeD ρ [3, 2]))) nxS)))))) (retS (eVar 3)))))
noncomputable def m__law_is_once : List PyData → Res PyData := runD 7 (seqS (setS [] 5 (eComp (itSq (eSlice (eVar 0) (ptSome (eVar 2)) (ptSome (eVar 3)))) (.one 6) (teAnd (eB (eOp oIsNot (eVar 6) (eC .none))) (eB (eOp oInT (eOp oIx (eVar 6) (eC (.int 0))) (eVar 1)))) (eVar 6))) (seqS (ifS (eB (eOp oEq (eVar 5) (eLst aNil))) (retS (eC (.bool true))) nxS) (seqS (ifS (teOr (eB (eOp oGt (eCall1 oLen (eVar 5)) (eVar 4))) (teOr (eB (eOp oNe (eComp (itSq (eVar 5)) (.one 6) (eB (eOp oNe (eVar 6) (eOp oIx (eVar 5) (eC (.int 0))))) (eVar 6)) (eLst aNil))) (eB (eOp oIs (eOp oIx (eOp oIx (eVar 5) (eC (.int 0))) (eC (.int 3))) (eC .none))))) (retS (eC (.bool false))) nxS) (retS (eOp oIn (eOp oIx (eVar 5) (eC (.int 0))) (eSlice (eVar 0) ptNo (ptSome (eVar 2))))))))
noncomputable def m__law_hold : List PyData → Res PyData := runD 9 (seqS (setS [] 3 (eTupIx (eVar 1) (eVar 2))) (seqS (setS [] 4 (eCall m__law_heights (aCons (eVar 0) (aCons (eVar 1) aNil)))) (seqS (setS [] 5 (eC (.int 0))) (seqS (forS [] (itSq (eSlice (eVar 1) (ptSome (eOp oAdd (eVar 3) (eC (.int 1)))) ptNo)) (.one 6) (forS [] (itSq (eOp oIx (eOp oIx (eVar 0) (eVar 6)) (eC (.int 3)))) (.tup [7, 8]) (ifS (teAnd (eB (eOp oIsNot (eVar 8) (eC .none))) (eB (eOp oLe (eOp oIx (eVar 4) (eVar 8)) (eVar 3)))) (setS [] 5 (eCall2 oMax (eVar 5) (eOp oSub (eVar 7) (eC (.int 1))))) nxS))) (retS (eVar 5))))))
noncomputable def m__law_work : List PyData → Res PyData := runD 2 (retS (eCall1 oSum (eComp (itSq (eOp oIx (eVar 0) (eC (.int 3)))) (.one 1) teYes (eOp oIx (eVar 1) (eC (.int 0))))))
noncomputable def m__law_need : List PyData → Res PyData := runD 11 (seqS (setS [] 4 (eOp oAdd (eCall m__law_hold (aCons (eVar 0) (aCons (eVar 1) (aCons (eVar 2) aNil)))) (eCall m__law_work (aCons (eOp oIx (eVar 0) (eVar 2)) aNil)))) (seqS (forS [] (itSq (eSlice (eVar 1) ptNo (ptSome (eTupIx (eVar 1) (eVar 2))))) (.one 5) (seqS (asgS [] (.tup [7, 8, 9, 10]) (eOp oIx (eVar 0) (eVar 5))) (seqS (setS [] 6 (eOp oAdd (eOp oDiv (eOp oAdd (eVar 3) (eVar 9)) (eVar 7)) (eCall1 oInt (eOp oGt (eOp oMod (eOp oAdd (eVar 3) (eVar 9)) (eVar 7)) (eC (.int 0)))))) (setS [] 4 (eOp oAdd (eVar 4) (eOp oMul (eVar 6) (eCall m__law_work (aCons (eOp oIx (eVar 0) (eVar 5)) aNil)))))))) (retS (eVar 4))))
noncomputable def m__law_longest : List PyData → Res PyData := runD 4 (seqS (forS [] (itR2 (eC (.int 1)) (eOp oAdd (eOp oSub (eOp oIx (eOp oIx (eVar 0) (eVar 2)) (eC (.int 0))) (eOp oIx (eOp oIx (eVar 0) (eVar 2)) (eC (.int 2)))) (eC (.int 1)))) (.one 3) (ifS (eB (eOp oLe (eCall m__law_need (aCons (eVar 0) (aCons (eVar 1) (aCons (eVar 2) (aCons (eVar 3) aNil))))) (eVar 3))) (retS (eVar 3)) nxS)) (retS (eC .none)))
noncomputable def m__law_in_time : List PyData → Res PyData := runD 4 (seqS (setS [] 3 (eCall m__law_longest (aCons (eVar 0) (aCons (eVar 1) (aCons (eVar 2) aNil))))) (retS (eAnd (eOp oIsNot (eVar 3) (eC .none)) (eOp oLe (eVar 3) (eOp oIx (eOp oIx (eVar 0) (eVar 2)) (eC (.int 1)))))))
noncomputable def m_law_k09 : List PyData → Res PyData := runD 5 (seqS (setS [] 1 (eCall m__law_errands (aCons (eVar 0) (aCons (eC (.int 8)) (aCons (eC (.int 4)) (aCons (eC (.int 28)) (aCons (eC (.bool true)) aNil))))))) (seqS (setS [] 2 (eCall m__law_ranks (aCons (eVar 0) (aCons (eC (.int 0)) (aCons (eCall1 oLen (eVar 1)) aNil))))) (seqS (forS [] (itR1 (eCall1 oLen (eVar 1))) (.one 3) (seqS (setS [] 4 (eCall m_hold (aCons (eVar 1) (aCons (eVar 2) (aCons (eVar 3) aNil))))) (ifS (teOr (eB (eCall1 isaBool (eVar 4))) (eB (eOp oNe (eVar 4) (eCall m__law_hold (aCons (eVar 1) (aCons (eVar 2) (aCons (eVar 3) aNil))))))) (retS (eC (.bool false))) nxS))) (retS (eC (.bool true))))))
noncomputable def m_work_of : List PyData → Res PyData := runD 2 (retS (eCall1 oSum (eComp (itSq (eOp oIx (eVar 0) (eC (.int 3)))) (.one 1) teYes (eOp oIx (eVar 1) (eC (.int 0))))))
noncomputable def m_often : List PyData → Res PyData := runD 2 (retS (eOp oDiv (eOp oSub (eOp oAdd (eOp oAdd (eVar 1) (eOp oIx (eVar 0) (eC (.int 2)))) (eOp oIx (eVar 0) (eC (.int 0)))) (eC (.int 1))) (eOp oIx (eVar 0) (eC (.int 0)))))
noncomputable def m_need_with : List PyData → Res PyData := runD 8 (seqS (setS [] 5 (eSlice (eVar 1) ptNo (ptSome (eTupIx (eVar 1) (eVar 2))))) (seqS (setS [] 6 (eOp oAdd (eVar 3) (eCall m_work_of (aCons (eOp oIx (eVar 0) (eVar 2)) aNil)))) (retS (eOp oAdd (eVar 6) (eCall1 oSum (eComp (itSq (eVar 5)) (.one 7) teYes (eOp oMul (eCall m_often (aCons (eOp oIx (eVar 0) (eVar 7)) (aCons (eVar 4) aNil))) (eCall m_work_of (aCons (eOp oIx (eVar 0) (eVar 7)) aNil)))))))))
noncomputable def m_levels_with : List PyData → Res PyData := runD 7 (seqS (setS [] 4 (eOp oSub (eOp oIx (eOp oIx (eVar 0) (eVar 2)) (eC (.int 0))) (eOp oIx (eOp oIx (eVar 0) (eVar 2)) (eC (.int 2))))) (seqS (newS [] 5 (nLst (aCons (eCall m_need_with (aCons (eVar 0) (aCons (eVar 1) (aCons (eVar 2) (aCons (eVar 3) (aCons (eC (.int 1)) aNil)))))) aNil))) (seqS (whileS (eB (eOp oLe (eOp oIx (eVar 5) (eUn oNeg (eC (.int 1)))) (eVar 4))) (seqS (setS [5] 6 (fun ρ => ((eCall m_need_with (aCons (eVar 0) (aCons (eVar 1) (aCons (eVar 2) (aCons (eVar 3) (aCons (eOp oIx (eVar 5) (eUn oNeg (eC (.int 1)))) aNil)))))) ρ).bind scal)) (seqS (ifS (eB (eOp oEq (eVar 6) (eOp oIx (eVar 5) (eUn oNeg (eC (.int 1)))))) (retS (eVar 5)) nxS) (appS [5] 5 (fun ρ => (eVar 6) (wipeD ρ [5])))))) (retS (eC .none)))))
noncomputable def m_levels_of : List PyData → Res PyData := runD 3 (retS (eCall m_levels_with (aCons (eVar 0) (aCons (eVar 1) (aCons (eVar 2) (aCons (eCall m_hold_of (aCons (eVar 0) (aCons (eVar 1) (aCons (eVar 2) aNil)))) aNil))))))
noncomputable def m_last_of : List PyData → Res PyData := runD 1 (seqS (ifS (eB (eOp oIs (eVar 0) (eC .none))) (retS (eC .none)) nxS) (retS (eOp oIx (eVar 0) (eUn oNeg (eC (.int 1))))))
noncomputable def m_longest_of : List PyData → Res PyData := runD 3 (retS (eCall m_last_of (aCons (eCall m_levels_of (aCons (eVar 0) (aCons (eVar 1) (aCons (eVar 2) aNil)))) aNil)))
noncomputable def m_longest : List PyData → Res PyData := runD 3 (seqS (exprS (eCall m_need_ranks (aCons (eVar 0) (aCons (eVar 1) aNil)))) (seqS (exprS (eCall m_need_errand (aCons (eVar 0) (aCons (eVar 2) aNil)))) (retS (eCall m_longest_of (aCons (eVar 0) (aCons (eVar 1) (aCons (eVar 2) aNil)))))))
noncomputable def m_is_in_time : List PyData → Res PyData := runD 4 (seqS (setS [] 3 (eCall m_longest_of (aCons (eVar 0) (aCons (eVar 1) (aCons (eVar 2) aNil))))) (retS (eAnd (eOp oIsNot (eVar 3) (eC .none)) (eOp oLe (eVar 3) (eOp oIx (eOp oIx (eVar 0) (eVar 2)) (eC (.int 1)))))))
noncomputable def m_in_time : List PyData → Res PyData := runD 3 (seqS (exprS (eCall m_need_ranks (aCons (eVar 0) (aCons (eVar 1) aNil)))) (retS (eComp (itR1 (eCall1 oLen (eVar 0))) (.one 2) (eB (eCall m_is_in_time (aCons (eVar 0) (aCons (eVar 1) (aCons (eVar 2) aNil))))) (eVar 2))))
noncomputable def m_law_k10 : List PyData → Res PyData := runD 6 (seqS (setS [] 1 (eCall m__law_errands (aCons (eVar 0) (aCons (eC (.int 8)) (aCons (eC (.int 4)) (aCons (eC (.int 28)) (aCons (eC (.bool true)) aNil))))))) (seqS (setS [] 2 (eCall m__law_ranks (aCons (eVar 0) (aCons (eC (.int 0)) (aCons (eCall1 oLen (eVar 1)) aNil))))) (seqS (forS [] (itR1 (eCall1 oLen (eVar 1))) (.one 3) (ifS (eB (eOp oNe (eCall m_longest (aCons (eVar 1) (aCons (eVar 2) (aCons (eVar 3) aNil)))) (eCall m__law_longest (aCons (eVar 1) (aCons (eVar 2) (aCons (eVar 3) aNil)))))) (retS (eC (.bool false))) nxS)) (seqS (setS [] 4 (eCall m_in_time (aCons (eVar 1) (aCons (eVar 2) aNil)))) (seqS (setS [] 5 (fun ρ => eComp (itR1 (eCall1 oLen (eVar 1))) (.one 3) (eB (eCall m__law_in_time (aCons (eVar 1) (aCons (eVar 2) (aCons (eVar 3) aNil))))) (eVar 3) (wipeD ρ []))) (retS (eAnd (eCall1 isaList (eVar 4)) (eOp oEq (eVar 4) (eVar 5)))))))))
noncomputable def m_levels : List PyData → Res PyData := runD 3 (seqS (exprS (eCall m_need_ranks (aCons (eVar 0) (aCons (eVar 1) aNil)))) (seqS (exprS (eCall m_need_errand (aCons (eVar 0) (aCons (eVar 2) aNil)))) (retS (eCall m_levels_of (aCons (eVar 0) (aCons (eVar 1) (aCons (eVar 2) aNil)))))))
noncomputable def m_law_k11 : List PyData → Res PyData := runD 10 (seqS (setS [] 1 (eCall m__law_errands (aCons (eVar 0) (aCons (eC (.int 8)) (aCons (eC (.int 4)) (aCons (eC (.int 28)) (aCons (eC (.bool true)) aNil))))))) (seqS (setS [] 2 (eCall m__law_ranks (aCons (eVar 0) (aCons (eC (.int 0)) (aCons (eCall1 oLen (eVar 1)) aNil))))) (seqS (forS [] (itR1 (eCall1 oLen (eVar 1))) (.one 3) (seqS (setS [] 4 (eCall m_levels (aCons (eVar 1) (aCons (eVar 2) (aCons (eVar 3) aNil))))) (seqS (setS [] 5 (eCall m_longest (aCons (eVar 1) (aCons (eVar 2) (aCons (eVar 3) aNil))))) (ifS (eB (eOp oIs (eVar 5) (eC .none))) (ifS (eB (eOp oIsNot (eVar 4) (eC .none))) (retS (eC (.bool false))) nxS) (seqS (ifS (teOr (teNot (eB (eCall1 isaList (eVar 4)))) (teOr (eB (eOp oEq (eVar 4) (eLst aNil))) (eB (eOp oNe (eOp oIx (eVar 4) (eUn oNeg (eC (.int 1)))) (eVar 5))))) (retS (eC (.bool false))) nxS) (seqS (setS [] 6 (eC (.int 1))) (seqS (forS [] (itEnum (eVar 4)) (.tup [7, 8]) (seqS (ifS (teOr (eB (eOp oNe (eVar 8) (eCall m__law_need (aCons (eVar 1) (aCons (eVar 2) (aCons (eVar 3) (aCons (eVar 6) aNil))))))) (teAnd (eB (eOp oGt (eVar 7) (eC (.int 0)))) (eB (eOp oLe (eVar 8) (eVar 6))))) (retS (eC (.bool false))) nxS) (setS [] 6 (eVar 8)))) (seqS (ifS (eB (eOp oNe (eCall m__law_need (aCons (eVar 1) (aCons (eVar 2) (aCons (eVar 3) (aCons (eVar 5) aNil))))) (eVar 5))) (retS (eC (.bool false))) nxS) (ifS (eB (eOp oNe (eComp (itR2 (eC (.int 1)) (eVar 5)) (.one 9) (eB (eOp oLe (eCall m__law_need (aCons (eVar 1) (aCons (eVar 2) (aCons (eVar 3) (aCons (eVar 9) aNil))))) (eVar 9))) (eVar 9)) (eLst aNil))) (retS (eC (.bool false))) nxS))))))))) (retS (eC (.bool true))))))
noncomputable def m_holder : List PyData → Res PyData := runD 9 (seqS (setS [] 3 (eCall m_hold_of (aCons (eVar 0) (aCons (eVar 1) (aCons (eVar 2) aNil))))) (seqS (setS [] 4 (eTupIx (eVar 1) (eVar 2))) (seqS (setS [] 5 (eCall m_heights_of (aCons (eVar 0) (aCons (eVar 1) aNil)))) (seqS (ifS (eB (eOp oEq (eVar 3) (eC (.int 0)))) (retS (eC .none)) nxS) (forS [] (itSq (eSlice (eVar 1) (ptSome (eOp oAdd (eVar 4) (eC (.int 1)))) ptNo)) (.one 6) (forS [] (itEnumT (eOp oIx (eOp oIx (eVar 0) (eVar 6)) (eC (.int 3)))) (.tup [7, 8]) (ifS (teAnd (eB (eOp oIsNot (eOp oIx (eVar 8) (eC (.int 1))) (eC .none))) (teAnd (eB (eOp oLe (eOp oIx (eVar 5) (eOp oIx (eVar 8) (eC (.int 1)))) (eVar 4))) (eB (eOp oEq (eOp oIx (eVar 8) (eC (.int 0))) (eOp oAdd (eVar 3) (eC (.int 1))))))) (retS (eTup (aCons (eVar 6) (aCons (eVar 7) aNil)))) nxS)))))))
noncomputable def m_soonest : List PyData → Res PyData := runD 4 (seqS (newS [] 3 (nLst (aCons (eVar 1) aNil))) (seqS (whileS (eB (eOp oLe (eOp oIx (eVar 3) (eUn oNeg (eC (.int 1)))) (eVar 2))) (appS [3] 3 (fun ρ => ((eOp oAdd (eOp oSub (eVar 1) (eOp oIx (eVar 0) (eC (.int 2)))) (eOp oMul (eOp oIx (eVar 0) (eC (.int 0))) (eCall1 oLen (eVar 3)))) ρ).bind scal))) (retS (eVar 3))))
noncomputable def m_worst_run : List PyData → Res PyData := runD 10 (seqS (exprS (eCall m_need_ranks (aCons (eVar 0) (aCons (eVar 1) aNil)))) (seqS (exprS (eCall m_need_errand (aCons (eVar 0) (aCons (eVar 2) aNil)))) (seqS (newS [] 3 (eCompL (itSq (eVar 0)) (.one 8) teYes (eLst aNil))) (seqS (setS [3] 4 (fun ρ => (eC (.int 0)) (wipeD ρ [3]))) (seqS (setS [3] 5 (fun ρ => (eCall m_holder (aCons (eVar 0) (aCons (eVar 1) (aCons (eVar 2) aNil)))) (wipeD ρ [3]))) (seqS (ifS (eB (eOp oIsNot (eVar 5) (eC .none))) (seqS (putS [3] 3 (eOp oIx (eVar 5) (eC (.int 0))) (fun ρ => (eLst (aCons (eC (.int 0)) aNil)) (wipeD ρ [3]))) (setS [3] 4 (fun ρ => (eOp oAdd (eC (.int 1)) (eCall1 oSum (eComp (itSq (eSlice (eOp oIx (eOp oIx (eVar 0) (eOp oIx (eVar 5) (eC (.int 0)))) (eC (.int 3))) ptNo (ptSome (eOp oIx (eVar 5) (eC (.int 1)))))) (.one 9) teYes (eOp oIx (eVar 9) (eC (.int 0)))))) (wipeD ρ [3])))) nxS) (seqS (setS [3] 6 (fun ρ => (eCall m_longest_of (aCons (eVar 0) (aCons (eVar 1) (aCons (eVar 2) aNil)))) (wipeD ρ [3]))) (seqS (ifS (eB (eOp oIs (eVar 6) (eC .none))) (setS [3] 6 (fun ρ => (eOp oIx (eOp oIx (eVar 0) (eVar 2)) (eC (.int 0))) (wipeD ρ [3]))) nxS) (seqS (forS [3] (itSq (eSlice (eVar 1) ptNo (ptSome (eTupIx (eVar 1) (eVar 2))))) (.one 7) (putS [3] 3 (eVar 7) (fun ρ => (eSlice (eCall m_soonest (aCons (eOp oIx (eVar 0) (eVar 7)) (aCons (eVar 4) (aCons (eOp oAdd (eVar 4) (eVar 6)) aNil)))) ptNo (ptSome (eC (.int 60)))) (wipeD ρ [3])))) (seqS (putS [3] 3 (eVar 2) (fun ρ => (eLst (aCons (eVar 4) aNil)) (wipeD ρ [3]))) (retS (eTup (aCons (eVar 3) (aCons (eTup (aCons (eVar 2) (aCons (eC (.int 0)) aNil))) aNil))))))))))))))
noncomputable def m_lowest_for : List PyData → Res PyData := runD 6 (seqS (forS [] (itSq (eVar 1)) (.one 3) (seqS (setS [] 4 (eOp oCatT (eOp oCatT (eCall1 oTuple (eComp (itSq (eVar 1)) (.one 5) (eB (eOp oNe (eVar 5) (eVar 3))) (eVar 5))) (eTup (aCons (eVar 3) aNil))) (eVar 2))) (ifS (eB (eCall m_is_in_time (aCons (eVar 0) (aCons (eVar 4) (aCons (eVar 3) aNil))))) (retS (eVar 3)) nxS))) (retS (eC .none)))
noncomputable def m_sorted_out : List PyData → Res PyData := runD 4 (seqS (newS [] 1 (nR1 (eCall1 oLen (eVar 0)))) (seqS (setS [1] 2 (fun ρ => (eTup aNil) (wipeD ρ [1]))) (seqS (whileS (eB (eOp oNe (eVar 1) (eLst aNil))) (seqS (setS [1] 3 (fun ρ => ((eCall m_lowest_for (aCons (eVar 0) (aCons (eVar 1) (aCons (eVar 2) aNil)))) ρ).bind scal)) (seqS (ifS (eB (eOp oIs (eVar 3) (eC .none))) (retS (eTup (aCons (eVar 1) (aCons (eVar 2) aNil)))) nxS) (seqS (remS 1 (eVar 3)) (setS [1] 2 (fun ρ => (eOp oCatT (eTup (aCons (eVar 3) aNil)) (eVar 2)) (wipeD ρ [1]))))))) (retS (eTup (aCons (eVar 1) (aCons (eVar 2) aNil)))))))
noncomputable def m_fitting_of : List PyData → Res PyData := runD 3 (seqS (asgS [] (.tup [1, 2]) (eCall m_sorted_out (aCons (eVar 0) aNil))) (seqS (ifS (eB (eOp oNe (eVar 1) (eLst aNil))) (retS (eC .none)) nxS) (retS (eVar 2))))
noncomputable def m_fitting : List PyData → Res PyData := runD 1 (retS (eCall m_fitting_of (aCons (eCall m_checked (aCons (eVar 0) aNil)) aNil)))
noncomputable def m__law_orders : Nat → List PyData → Res PyData
  | 0 => fun _ => .bad
  | k + 1 => runD 5 (seqS (ifS (eB (eOp oEq (eVar 0) (eLst aNil))) (retS (eLst (aCons (eTup aNil) aNil))) nxS) (seqS (newS [] 1 (nLst aNil)) (seqS (forS [1] (itSq (eVar 0)) (.one 2) (extS [1] 1 (fun ρ => (eComp (itSq (eCall (m__law_orders k) (aCons (eComp (itSq (eVar 0)) (.one 4) (eB (eOp oNe (eVar 4) (eVar 2))) (eVar 4)) aNil))) (.one 3) teYes (eOp oCatT (eTup (aCons (eVar 2) aNil)) (eVar 3))) (wipeD ρ [1])))) (retS (eVar 1)))))
noncomputable def m__law_all_in_time : List PyData → Res PyData := runD 3 (retS (eOp oEq (eComp (itSq (eVar 1)) (.one 2) (teNot (eB (eCall m__law_in_time (aCons (eVar 0) (aCons (eVar 1) (aCons (eVar 2) aNil)))))) (eVar 2)) (eLst aNil)))
noncomputable def m_law_k14 : List PyData → Res PyData := runD 4 (seqS (setS [] 1 (eCall m__law_errands (aCons (eVar 0) (aCons (eC (.int 0)) (aCons (eC (.int 4)) (aCons (eC (.int 18)) (aCons (eC (.bool true)) aNil))))))) (seqS (setS [] 2 (eCall m_fitting (aCons (eVar 1) aNil))) (seqS (ifS (eB (eOp oIs (eVar 2) (eC .none))) (retS (eOp oEq (eComp (itSq (eCall (m__law_orders 8) (aCons (eLstR1 (eCall1 oLen (eVar 1))) aNil))) (.one 3) (eB (eCall m__law_all_in_time (aCons (eVar 1) (aCons (eVar 3) aNil)))) (eVar 3)) (eLst aNil))) nxS) (seqS (ifS (teOr (teNot (eB (eCall1 isaTuple (eVar 2)))) (eB (eOp oNe (eCall1 oSorted (eVar 2)) (eLstR1 (eCall1 oLen (eVar 1)))))) (retS (eC (.bool false))) nxS) (retS (eCall m__law_all_in_time (aCons (eVar 1) (aCons (eVar 2) aNil))))))))
noncomputable def m_never : List PyData → Res PyData := runD 2 (seqS (setS [] 1 (eOp oIx (eCall m_sorted_out (aCons (eCall m_checked (aCons (eVar 0) aNil)) aNil)) (eC (.int 0)))) (seqS (ifS (eB (eOp oEq (eVar 1) (eLst aNil))) (retS (eC .none)) nxS) (retS (eVar 1))))
noncomputable def m_law_k15 : List PyData → Res PyData := runD 7 (seqS (setS [] 1 (eCall m__law_errands (aCons (eVar 0) (aCons (eC (.int 0)) (aCons (eC (.int 4)) (aCons (eC (.int 18)) (aCons (eC (.bool true)) aNil))))))) (seqS (setS [] 2 (eCall m_never (aCons (eVar 1) aNil))) (seqS (ifS (eB (eOp oIsNot (eCall m_fitting (aCons (eVar 1) aNil)) (eC .none))) (retS (eOp oIs (eVar 2) (eC .none))) nxS) (seqS (setS [] 3 (eLstR1 (eCall1 oLen (eVar 1)))) (seqS (ifS (teOr (teNot (eB (eCall1 isaList (eVar 2)))) (teOr (eB (eOp oEq (eVar 2) (eLst aNil))) (eB (eOp oNe (eVar 2) (eComp (itSq (eVar 3)) (.one 6) (eB (eOp oIn (eVar 6) (eVar 2))) (eVar 6)))))) (retS (eC (.bool false))) nxS) (seqS (forS [] (itSq (eCall (m__law_orders 8) (aCons (eVar 3) aNil))) (.one 4) (seqS (setS [] 5 (eOp oIx (eComp (itSq (eVar 4)) (.one 6) (eB (eOp oIn (eVar 6) (eVar 2))) (eVar 6)) (eUn oNeg (eC (.int 1))))) (ifS (eB (eCall m__law_in_time (aCons (eVar 1) (aCons (eVar 4) (aCons (eVar 5) aNil))))) (retS (eC (.bool false))) nxS))) (retS (eC (.bool true)))))))))
noncomputable def m_why_never : List PyData → Res PyData := runD 7 (seqS (asgS [] (.tup [1, 2]) (eCall m_sorted_out (aCons (eCall m_checked (aCons (eVar 0) aNil)) aNil))) (seqS (ifS (eB (eOp oEq (eVar 1) (eLst aNil))) (retS (eC .none)) nxS) (seqS (newS [] 3 (nLst aNil)) (seqS (forS [3] (itSq (eVar 1)) (.one 4) (seqS (setS [3] 5 (fun ρ => (eOp oCatT (eOp oCatT (eCall1 oTuple (eComp (itSq (eVar 1)) (.one 6) (eB (eOp oNe (eVar 6) (eVar 4))) (eVar 6))) (eTup (aCons (eVar 4) aNil))) (eVar 2)) (wipeD ρ [3]))) (appS [3] 3 (fun ρ => (eTup (aCons (eVar 4) (aCons (eVar 5) (aCons (eCall m_longest_of (aCons (eVar 0) (aCons (eVar 5) (aCons (eVar 4) aNil)))) aNil)))) (wipeD ρ [3]))))) (retS (eVar 3))))))
noncomputable def m_law_k16 : List PyData → Res PyData := runD 10 (seqS (setS [] 1 (eCall m__law_errands (aCons (eVar 0) (aCons (eC (.int 0)) (aCons (eC (.int 4)) (aCons (eC (.int 18)) (aCons (eC (.bool true)) aNil))))))) (seqS (setS [] 2 (eCall m_never (aCons (eVar 1) aNil))) (seqS (setS [] 3 (eCall m_why_never (aCons (eVar 1) aNil))) (seqS (ifS (eB (eOp oIs (eVar 2) (eC .none))) (retS (eOp oIs (eVar 3) (eC .none))) nxS) (seqS (ifS (teOr (teNot (eB (eCall1 isaList (eVar 3)))) (eB (eOp oNe (eComp (itSq (eVar 3)) (.one 8) teYes (eOp oIx (eVar 8) (eC (.int 0)))) (eVar 2)))) (retS (eC (.bool false))) nxS) (seqS (forS [] (itSq (eVar 3)) (.tup [4, 5, 6]) (seqS (ifS (teOr (teNot (eB (eCall1 isaTuple (eVar 5)))) (eB (eOp oNe (eCall1 oSorted (eVar 5)) (eLstR1 (eCall1 oLen (eVar 1)))))) (retS (eC (.bool false))) nxS) (seqS (setS [] 7 (eSlice (eVar 5) ptNo (ptSome (eTupIx (eVar 5) (eVar 4))))) (seqS (ifS (eB (eOp oNe (eCall1 oSorted (eVar 7)) (eComp (itSq (eVar 2)) (.one 9) (eB (eOp oNe (eVar 9) (eVar 4))) (eVar 9)))) (retS (eC (.bool false))) nxS) (ifS (teOr (eB (eOp oNe (eVar 6) (eCall m__law_longest (aCons (eVar 1) (aCons (eVar 5) (aCons (eVar 4) aNil)))))) (teAnd (eB (eOp oIsNot (eVar 6) (eC .none))) (eB (eOp oLe (eVar 6) (eOp oIx (eOp oIx (eVar 1) (eVar 4)) (eC (.int 1))))))) (retS (eC (.bool false))) nxS))))) (retS (eC (.bool true)))))))))
noncomputable def m_grown : List PyData → Res PyData := runD 8 (seqS (asgS [] (.tup [3, 4, 5, 6]) (eOp oIx (eVar 0) (eVar 1))) (seqS (setS [] 7 (eTup (aCons (eOp oAdd (eOp oIx (eOp oIx (eVar 6) (eUn oNeg (eC (.int 1)))) (eC (.int 0))) (eVar 2)) (aCons (eC .none) aNil)))) (retS (eOp oCatT (eOp oCatT (eSlice (eVar 0) ptNo (ptSome (eVar 1))) (eTup (aCons (eTup (aCons (eVar 3) (aCons (eVar 4) (aCons (eVar 5) (aCons (eOp oCatT (eSlice (eVar 6) ptNo (ptSome (eUn oNeg (eC (.int 1))))) (eTup (aCons (eVar 7) aNil))) aNil))))) aNil))) (eSlice (eVar 0) (ptSome (eOp oAdd (eVar 1) (eC (.int 1)))) ptNo)))))
noncomputable def m_all_in_time : List PyData → Res PyData := runD 3 (retS (eCall1 oAll (eComp (itR1 (eCall1 oLen (eVar 0))) (.one 2) teYes (eCall m_is_in_time (aCons (eVar 0) (aCons (eVar 1) (aCons (eVar 2) aNil)))))))
noncomputable def m_spare : List PyData → Res PyData := runD 4 (seqS (exprS (eCall m_need_ranks (aCons (eVar 0) (aCons (eVar 1) aNil)))) (seqS (exprS (eCall m_need_errand (aCons (eVar 0) (aCons (eVar 2) aNil)))) (seqS (ifS (teNot (eB (eCall m_all_in_time (aCons (eVar 0) (aCons (eVar 1) aNil))))) (retS (eC .none)) nxS) (seqS (setS [] 3 (eC (.int 0))) (seqS (whileS (eB (eCall m_all_in_time (aCons (eCall m_grown (aCons (eVar 0) (aCons (eVar 2) (aCons (eOp oAdd (eVar 3) (eC (.int 1))) aNil)))) (aCons (eVar 1) aNil)))) (setS [] 3 (eOp oAdd (eVar 3) (eC (.int 1))))) (retS (eVar 3)))))))
noncomputable def m__law_grown : List PyData → Res PyData := runD 8 (seqS (asgS [] (.tup [3, 4, 5, 6]) (eOp oIx (eVar 0) (eVar 1))) (seqS (setS [] 7 (eTup (aCons (eVar 3) (aCons (eVar 4) (aCons (eVar 5) (aCons (eOp oCatT (eSlice (eVar 6) ptNo (ptSome (eUn oNeg (eC (.int 1))))) (eTup (aCons (eTup (aCons (eOp oAdd (eOp oIx (eOp oIx (eVar 6) (eUn oNeg (eC (.int 1)))) (eC (.int 0))) (eVar 2)) (aCons (eC .none) aNil))) aNil))) aNil)))))) (retS (eOp oCatT (eOp oCatT (eSlice (eVar 0) ptNo (ptSome (eVar 1))) (eTup (aCons (eVar 7) aNil))) (eSlice (eVar 0) (ptSome (eOp oAdd (eVar 1) (eC (.int 1)))) ptNo)))))
noncomputable def m_law_k17 : List PyData → Res PyData := runD 5 (seqS (setS [] 1 (eCall m__law_errands (aCons (eVar 0) (aCons (eC (.int 8)) (aCons (eC (.int 4)) (aCons (eC (.int 18)) (aCons (eC (.bool true)) aNil))))))) (seqS (setS [] 2 (eCall m__law_ranks (aCons (eVar 0) (aCons (eC (.int 0)) (aCons (eCall1 oLen (eVar 1)) aNil))))) (seqS (ifS (teAnd (eB (eOp oGt (eCall m__law_mixed (aCons (eVar 0) (aCons (eC (.int 6)) (aCons (eC (.int 4)) aNil)))) (eC (.int 0)))) (eB (eOp oIsNot (eCall m_fitting (aCons (eVar 1) aNil)) (eC .none)))) (setS [] 2 (eCall m_fitting (aCons (eVar 1) aNil))) nxS) (seqS (forS [] (itR1 (eCall1 oLen (eVar 1))) (.one 3) (seqS (setS [] 4 (eCall m_spare (aCons (eVar 1) (aCons (eVar 2) (aCons (eVar 3) aNil))))) (ifS (teNot (eB (eCall m__law_all_in_time (aCons (eVar 1) (aCons (eVar 2) aNil))))) (ifS (eB (eOp oIsNot (eVar 4) (eC .none))) (retS (eC (.bool false))) nxS) (seqS (ifS (teOr (eB (eCall1 isaBool (eVar 4))) (teOr (teNot (eB (eCall1 isaInt (eVar 4)))) (eB (eOp oLt (eVar 4) (eC (.int 0)))))) (retS (eC (.bool false))) nxS) (seqS (ifS (teNot (eB (eCall m__law_all_in_time (aCons (eCall m__law_grown (aCons (eVar 1) (aCons (eVar 3) (aCons (eVar 4) aNil)))) (aCons (eVar 2) aNil))))) (retS (eC (.bool false))) nxS) (ifS (eB (eCall m__law_all_in_time (aCons (eCall m__law_grown (aCons (eVar 1) (aCons (eVar 3) (aCons (eOp oAdd (eVar 4) (eC (.int 1))) aNil)))) (aCons (eVar 2) aNil)))) (retS (eC (.bool false))) nxS)))))) (retS (eC (.bool true)))))))
noncomputable def m_bundles : List PyData → Res PyData := runD 7 (seqS (setS [] 1 (fun ρ => eComp (itR1 (eCall1 oLen (eVar 0))) (.one 6) teYes (eLst (aCons (eVar 6) aNil)) (wipeD ρ []))) (seqS (forS [] (itR1 (eC (.int 4))) (.one 2) (seqS (setS [] 3 (eComp (itSq (eVar 1)) (.one 5) (eB (eCall1 oAny (eComp (itSq (eVar 5)) (.one 6) teYes (eCall m_has_tool (aCons (eOp oIx (eVar 0) (eVar 6)) (aCons (eVar 2) aNil)))))) (eVar 5))) (ifS (eB (eOp oGt (eCall1 oLen (eVar 3)) (eC (.int 1)))) (seqS (newS [] 4 (nLst aNil)) (seqS (forS [4] (itSq (eVar 3)) (.one 5) (extS [4] 4 (fun ρ => (eVar 5) (wipeD ρ [4])))) (setS [] 1 (eCall1 oSortedR (eOp oCatL (eComp (itSq (eVar 1)) (.one 5) (eB (eOp oNotIn (eVar 5) (eVar 3))) (eVar 5)) (eLst (aCons (eCall1 oSorted (eVar 4)) aNil))))))) nxS))) (retS (eVar 1))))
noncomputable def m_fits : List PyData → Res PyData := runD 3 (retS (eOr (eOp oEq (eVar 1) (eLst aNil)) (eOp oIsNot (eCall m_fitting_of (aCons (eCall1 oTuple (eComp (itSq (eVar 1)) (.one 2) teYes (eOp oIx (eVar 0) (eVar 2)))) aNil)) (eC .none))))
noncomputable def m_dealt_on : Nat → List PyData → Res PyData
  | 0 => fun _ => .bad
  | k + 1 => runD 6 (seqS (ifS (eB (eOp oEq (eVar 1) (eLst aNil))) (retS (eVar 2)) nxS) (seqS (forS [] (itR1 (eCall1 oLen (eVar 2))) (.one 3) (seqS (setS [] 4 (eCall1 oSorted (eOp oCatL (eOp oIx (eVar 2) (eVar 3)) (eOp oIx (eVar 1) (eC (.int 0)))))) (ifS (teAnd (eB (eOp oNotIn (eOp oIx (eVar 2) (eVar 3)) (eSlice (eVar 2) ptNo (ptSome (eVar 3))))) (eB (eCall m_fits (aCons (eVar 0) (aCons (eVar 4) aNil))))) (seqS (setS [] 5 (eCall (m_dealt_on k) (aCons (eVar 0) (aCons (eSlice (eVar 1) (ptSome (eC (.int 1))) ptNo) (aCons (eOp oCatL (eOp oCatL (eSlice (eVar 2) ptNo (ptSome (eVar 3))) (eLst (aCons (eVar 4) aNil))) (eSlice (eVar 2) (ptSome (eOp oAdd (eVar 3) (eC (.int 1)))) ptNo)) aNil))))) (ifS (eB (eOp oIsNot (eVar 5) (eC .none))) (retS (eVar 5)) nxS)) nxS))) (retS (eC .none))))
noncomputable def m_dealing_of : List PyData → Res PyData := runD 3 (retS (eCall (m_dealt_on 8) (aCons (eVar 0) (aCons (eCall m_bundles (aCons (eVar 0) aNil)) (aCons (eComp (itR1 (eVar 1)) (.one 2) teYes (eLst aNil)) aNil)))))
noncomputable def m_dealt : List PyData → Res PyData := runD 2 (seqS (exprS (eCall m_checked (aCons (eVar 0) aNil))) (seqS (ifS (teNot (eB (eCall m_between (aCons (eVar 1) (aCons (eC (.int 1)) (aCons (eC (.int 4)) aNil)))))) (raiseS "NoNumber") nxS) (retS (eCall m_dealing_of (aCons (eVar 0) (aCons (eVar 1) aNil))))))
noncomputable def m__law_is_dealing : List PyData → Res PyData := runD 8 (seqS (forS [] (itSq (eVar 1)) (.one 2) (seqS (ifS (teAnd (eB (eOp oNe (eVar 2) (eLst aNil))) (eB (eOp oIs (eCall m_fitting (aCons (eCall1 oTuple (eComp (itSq (eVar 2)) (.one 4) teYes (eOp oIx (eVar 0) (eVar 4)))) aNil)) (eC .none)))) (retS (eC (.bool false))) nxS) (forS [] (itR1 (eCall1 oLen (eVar 0))) (.one 3) (ifS (eB (eOp oNotIn (eVar 3) (eVar 2))) (forS [] (itSq (eVar 2)) (.one 4) (seqS (setS [] 5 (eComp (itSq (eOp oIx (eOp oIx (eVar 0) (eVar 4)) (eC (.int 3)))) (.tup [6, 7]) (eB (eOp oIsNot (eVar 7) (eC .none))) (eVar 7))) (ifS (eB (eOp oNe (eComp (itSq (eOp oIx (eOp oIx (eVar 0) (eVar 3)) (eC (.int 3)))) (.tup [6, 7]) (eB (eOp oIn (eVar 7) (eVar 5))) (eVar 7)) (eLst aNil))) (retS (eC (.bool false))) nxS))) nxS)))) (retS (eC (.bool true))))
noncomputable def m__law_dealings : List PyData → Res PyData := runD 9 (seqS (setS [] 2 (eLst (aCons (eComp (itR1 (eVar 1)) (.one 6) teYes (eLst aNil)) aNil))) (seqS (forS [] (itR1 (eVar 0)) (.one 3) (seqS (newS [] 4 (nLst aNil)) (seqS (forS [4] (itSq (eVar 2)) (.one 5) (forS [4] (itR1 (eVar 1)) (.one 6) (appS [4] 4 (fun ρ => (eComp (itEnum (eVar 5)) (.tup [7, 8]) teYes (eOp oCatL (eVar 8) (eRep (nLst (aCons (eVar 3) aNil)) (eCall1 oInt (eOp oEq (eVar 7) (eVar 6)))))) (wipeD ρ [4]))))) (setS [] 2 (eVar 4))))) (retS (eVar 2))))
noncomputable def m_law_k18 : List PyData → Res PyData := runD 7 (seqS (setS [] 1 (eCall m__law_errands (aCons (eVar 0) (aCons (eC (.int 2)) (aCons (eC (.int 4)) (aCons (eC (.int 18)) (aCons (eC (.bool true)) aNil))))))) (seqS (setS [] 2 (eOp oAdd (eC (.int 1)) (eCall m__law_mixed (aCons (eVar 0) (aCons (eC (.int 0)) (aCons (eC (.int 3)) aNil)))))) (seqS (setS [] 3 (eCall m_dealt (aCons (eVar 1) (aCons (eVar 2) aNil)))) (seqS (ifS (eB (eOp oIs (eVar 3) (eC .none))) (retS (eOp oEq (eComp (itSq (eCall m__law_dealings (aCons (eCall1 oLen (eVar 1)) (aCons (eVar 2) aNil)))) (.one 6) (eB (eCall m__law_is_dealing (aCons (eVar 1) (aCons (eVar 6) aNil)))) (eVar 6)) (eLst aNil))) nxS) (seqS (ifS (teOr (teNot (eB (eCall1 isaList (eVar 3)))) (eB (eOp oNe (eCall1 oLen (eVar 3)) (eVar 2)))) (retS (eC (.bool false))) nxS) (seqS (forS [] (itSq (eVar 3)) (.one 4) (ifS (teOr (teNot (eB (eCall1 isaList (eVar 4)))) (eB (eOp oNe (eVar 4) (eCall1 oSorted (eVar 4))))) (retS (eC (.bool false))) nxS)) (seqS (newS [] 5 (nLst aNil)) (seqS (forS [5] (itSq (eVar 3)) (.one 4) (extS [5] 5 (fun ρ => (eVar 4) (wipeD ρ [5])))) (retS (eAnd (eOp oEq (eCall1 oSorted (eVar 5)) (eLstR1 (eCall1 oLen (eVar 1)))) (eCall m__law_is_dealing (aCons (eVar 1) (aCons (eVar 3) aNil)))))))))))))
noncomputable def m_fewest_hands : List PyData → Res PyData := runD 2 (seqS (exprS (eCall m_checked (aCons (eVar 0) aNil))) (seqS (forS [] (itR2 (eC (.int 1)) (eOp oAdd (eC (.int 4)) (eC (.int 1)))) (.one 1) (ifS (eB (eOp oIsNot (eCall m_dealing_of (aCons (eVar 0) (aCons (eVar 1) aNil))) (eC .none))) (retS (eVar 1)) nxS)) (retS (eC .none))))
noncomputable def m__law_refused_k19 : List PyData → Res PyData := runD 3 (seqS (tryRetS "NoNumber" 2 (.bool true) (exprS (eCall m_dealt (aCons (eVar 0) (aCons (eVar 1) aNil))))) (retS (eC (.bool false))))
noncomputable def m_law_k19 : List PyData → Res PyData := runD 4 (seqS (setS [] 1 (eCall m__law_errands (aCons (eVar 0) (aCons (eC (.int 2)) (aCons (eC (.int 4)) (aCons (eC (.int 18)) (aCons (eC (.bool true)) aNil))))))) (seqS (setS [] 2 (fun ρ => eComp (itR2 (eC (.int 1)) (eC (.int 5))) (.one 3) (eB (eOp oIsNot (eCall m_dealt (aCons (eVar 1) (aCons (eVar 3) aNil))) (eC .none))) (eVar 3) (wipeD ρ []))) (seqS (ifS (eB (eOp oNe (eCall m_fewest_hands (aCons (eVar 1) aNil)) (eOp oIx (eOp oCatL (eVar 2) (eLst (aCons (eC .none) aNil))) (eC (.int 0))))) (retS (eC (.bool false))) nxS) (seqS (ifS (teAnd (eB (eOp oNe (eVar 2) (eLst aNil))) (eB (eOp oNe (eVar 2) (eLstR2 (eOp oIx (eVar 2) (eC (.int 0))) (eC (.int 5)))))) (retS (eC (.bool false))) nxS) (retS (eCall m__law_refused_k19 (aCons (eVar 1) (aCons (eOp oIx (eLst (aCons (eC (.int 0)) (aCons (eC (.int 5)) (aCons (eC (.bool true)) (aCons (eC .none) (aCons (eC (.str "2")) (aCons (eUn oNeg (eC (.int 1))) aNil))))))) (eCall m__law_mixed (aCons (eVar 0) (aCons (eC (.int 0)) (aCons (eC (.int 6)) aNil))))) aNil))))))))
noncomputable def m__law_no_longer : List PyData → Res PyData := runD 2 (retS (eOr (eOp oIs (eVar 1) (eC .none)) (eAnd (eOp oIsNot (eVar 0) (eC .none)) (eOp oLe (eVar 0) (eVar 1)))))
noncomputable def m_law_k20 : List PyData → Res PyData := runD 6 (seqS (setS [] 1 (eCall m__law_errands (aCons (eVar 0) (aCons (eC (.int 10)) (aCons (eC (.int 4)) (aCons (eC (.int 28)) (aCons (eC (.bool true)) aNil))))))) (seqS (setS [] 2 (eCall m__law_ranks (aCons (eVar 0) (aCons (eC (.int 0)) (aCons (eCall1 oLen (eVar 1)) aNil))))) (seqS (ifS (eB (eOp oEq (eCall1 oLen (eVar 2)) (eC (.int 1)))) (retS (eC (.bool true))) nxS) (seqS (setS [] 3 (eCall m__law_mixed (aCons (eVar 0) (aCons (eC (.int 6)) (aCons (eOp oSub (eCall1 oLen (eVar 2)) (eC (.int 1))) aNil))))) (seqS (setS [] 4 (eOp oCatT (eOp oCatT (eSlice (eVar 2) ptNo (ptSome (eVar 3))) (eTup (aCons (eOp oIx (eVar 2) (eOp oAdd (eVar 3) (eC (.int 1)))) (aCons (eOp oIx (eVar 2) (eVar 3)) aNil)))) (eSlice (eVar 2) (ptSome (eOp oAdd (eVar 3) (eC (.int 2)))) ptNo))) (seqS (ifS (teNot (eB (eCall m__law_no_longer (aCons (eCall m_longest (aCons (eVar 1) (aCons (eVar 4) (aCons (eOp oIx (eVar 2) (eOp oAdd (eVar 3) (eC (.int 1)))) aNil)))) (aCons (eCall m_longest (aCons (eVar 1) (aCons (eVar 2) (aCons (eOp oIx (eVar 2) (eOp oAdd (eVar 3) (eC (.int 1)))) aNil)))) aNil))))) (retS (eC (.bool false))) nxS) (seqS (ifS (teNot (eB (eCall m__law_no_longer (aCons (eCall m_longest (aCons (eVar 1) (aCons (eVar 2) (aCons (eOp oIx (eVar 2) (eVar 3)) aNil)))) (aCons (eCall m_longest (aCons (eVar 1) (aCons (eVar 4) (aCons (eOp oIx (eVar 2) (eVar 3)) aNil)))) aNil))))) (retS (eC (.bool false))) nxS) (seqS (forS [] (itSq (eOp oCatT (eSlice (eVar 2) ptNo (ptSome (eVar 3))) (eSlice (eVar 2) (ptSome (eOp oAdd (eVar 3) (eC (.int 2)))) ptNo))) (.one 5) (seqS (ifS (eB (eOp oNe (eCall m_longest (aCons (eVar 1) (aCons (eVar 4) (aCons (eVar 5) aNil)))) (eCall m_longest (aCons (eVar 1) (aCons (eVar 2) (aCons (eVar 5) aNil)))))) (retS (eC (.bool false))) nxS) (ifS (eB (eOp oNe (eCall m_hold (aCons (eVar 1) (aCons (eVar 4) (aCons (eVar 5) aNil)))) (eCall m_hold (aCons (eVar 1) (aCons (eVar 2) (aCons (eVar 5) aNil)))))) (retS (eC (.bool false))) nxS))) (retS (eC (.bool true)))))))))))
noncomputable def m__law_with : List PyData → Res PyData := runD 3 (retS (eOp oCatT (eOp oCatT (eSlice (eVar 0) ptNo (ptSome (eVar 1))) (eTup (aCons (eVar 2) aNil))) (eSlice (eVar 0) (ptSome (eOp oAdd (eVar 1) (eC (.int 1)))) ptNo)))
noncomputable def m_law_k21 : List PyData → Res PyData := runD 14 (seqS (setS [] 1 (eCall m__law_errands (aCons (eVar 0) (aCons (eC (.int 12)) (aCons (eC (.int 4)) (aCons (eC (.int 28)) (aCons (eC (.bool true)) aNil))))))) (seqS (setS [] 2 (eCall m__law_ranks (aCons (eVar 0) (aCons (eC (.int 0)) (aCons (eCall1 oLen (eVar 1)) aNil))))) (seqS (setS [] 3 (eCall m__law_mixed (aCons (eVar 0) (aCons (eC (.int 6)) (aCons (eCall1 oLen (eVar 1)) aNil))))) (seqS (asgS [] (.tup [4, 5, 6, 7]) (eOp oIx (eVar 1) (eVar 3))) (seqS (setS [] 8 (eCall m__law_with (aCons (eVar 1) (aCons (eVar 3) (aCons (eTup (aCons (eOp oAdd (eOp oAdd (eVar 4) (eC (.int 1))) (eCall m__law_mixed (aCons (eVar 0) (aCons (eC (.int 7)) (aCons (eC (.int 9)) aNil))))) (aCons (eVar 5) (aCons (eVar 6) (aCons (eVar 7) aNil))))) aNil))))) (seqS (setS [] 9 (eCall m__law_mixed (aCons (eVar 0) (aCons (eC (.int 8)) (aCons (eCall1 oLen (eVar 7)) aNil))))) (seqS (setS [] 10 (eTup (aCons (eCall2 oMax (eC (.int 1)) (eOp oSub (eOp oIx (eOp oIx (eVar 7) (eVar 9)) (eC (.int 0))) (eC (.int 1)))) (aCons (eOp oIx (eOp oIx (eVar 7) (eVar 9)) (eC (.int 1))) aNil)))) (seqS (setS [] 11 (eCall m__law_with (aCons (eVar 1) (aCons (eVar 3) (aCons (eTup (aCons (eVar 4) (aCons (eVar 5) (aCons (eVar 6) (aCons (eOp oCatT (eOp oCatT (eSlice (eVar 7) ptNo (ptSome (eVar 9))) (eTup (aCons (eVar 10) aNil))) (eSlice (eVar 7) (ptSome (eOp oAdd (eVar 9) (eC (.int 1)))) ptNo)) aNil))))) aNil))))) (seqS (forS [] (itR1 (eCall1 oLen (eVar 1))) (.one 12) (seqS (setS [] 13 (eCall m_longest (aCons (eVar 1) (aCons (eVar 2) (aCons (eVar 12) aNil))))) (seqS (ifS (teNot (eB (eCall m__law_no_longer (aCons (eCall m_longest (aCons (eVar 8) (aCons (eVar 2) (aCons (eVar 12) aNil)))) (aCons (eVar 13) aNil))))) (retS (eC (.bool false))) nxS) (ifS (teNot (eB (eCall m__law_no_longer (aCons (eCall m_longest (aCons (eVar 11) (aCons (eVar 2) (aCons (eVar 12) aNil)))) (aCons (eVar 13) aNil))))) (retS (eC (.bool false))) nxS)))) (retS (eC (.bool true))))))))))))
noncomputable def m__law_taken : List PyData → Res PyData := runD 8 (seqS (newS [] 2 (nLst aNil)) (seqS (forS [2] (itSq (eVar 0)) (.tup [3, 4, 5, 6]) (appS [2] 2 (fun ρ => (eTup (aCons (eOp oMul (eVar 3) (eVar 1)) (aCons (eOp oMul (eVar 4) (eVar 1)) (aCons (eOp oMul (eVar 5) (eVar 1)) (aCons (eCall1 oTuple (eComp (itSq (eVar 6)) (.one 7) teYes (eTup (aCons (eOp oMul (eOp oIx (eVar 7) (eC (.int 0))) (eVar 1)) (aCons (eC .none) aNil))))) aNil))))) (wipeD ρ [2])))) (retS (eCall1 oTuple (eVar 2)))))
noncomputable def m_law_k23 : List PyData → Res PyData := runD 9 (seqS (setS [] 1 (eCall m__law_errands (aCons (eVar 0) (aCons (eC (.int 12)) (aCons (eC (.int 4)) (aCons (eC (.int 18)) (aCons (eC (.bool true)) aNil))))))) (seqS (setS [] 2 (eCall1 oLen (eVar 1))) (seqS (setS [] 3 (eCall m__law_ranks (aCons (eVar 0) (aCons (eC (.int 0)) (aCons (eVar 2) aNil))))) (seqS (setS [] 4 (eCall m__law_ranks (aCons (eVar 0) (aCons (eC (.int 6)) (aCons (eVar 2) aNil))))) (seqS (setS [] 5 (eCall1 oTuple (eComp (itSq (eVar 4)) (.one 7) teYes (eOp oIx (eVar 1) (eVar 7))))) (seqS (setS [] 6 (eCall1 oTuple (eComp (itSq (eVar 3)) (.one 7) teYes (eTupIx (eVar 4) (eVar 7))))) (seqS (forS [] (itR1 (eVar 2)) (.one 7) (seqS (setS [] 8 (eTupIx (eVar 4) (eVar 7))) (seqS (ifS (eB (eOp oNe (eCall m_longest (aCons (eVar 5) (aCons (eVar 6) (aCons (eVar 8) aNil)))) (eCall m_longest (aCons (eVar 1) (aCons (eVar 3) (aCons (eVar 7) aNil)))))) (retS (eC (.bool false))) nxS) (seqS (ifS (eB (eOp oNe (eCall m_hold (aCons (eVar 5) (aCons (eVar 6) (aCons (eVar 8) aNil)))) (eCall m_hold (aCons (eVar 1) (aCons (eVar 3) (aCons (eVar 7) aNil)))))) (retS (eC (.bool false))) nxS) (ifS (eB (eOp oNe (eCall m_spare (aCons (eVar 5) (aCons (eVar 6) (aCons (eVar 8) aNil)))) (eCall m_spare (aCons (eVar 1) (aCons (eVar 3) (aCons (eVar 7) aNil)))))) (retS (eC (.bool false))) nxS))))) (seqS (ifS (eB (eOp oNe (eOp oIs (eCall m_fitting (aCons (eVar 5) aNil)) (eC .none)) (eOp oIs (eCall m_fitting (aCons (eVar 1) aNil)) (eC .none)))) (retS (eC (.bool false))) nxS) (retS (eOp oEq (eCall m_fewest_hands (aCons (eVar 5) aNil)) (eCall m_fewest_hands (aCons (eVar 1) aNil))))))))))))
noncomputable def m_hold_by_asking : List PyData → Res PyData := runD 10 (seqS (setS [] 3 (eTupIx (eVar 1) (eVar 2))) (seqS (setS [] 4 (eCall m_heights_of (aCons (eVar 0) (aCons (eVar 1) aNil)))) (seqS (newDS [] 5) (seqS (newDS [5] 6) (seqS (forS [6, 5] (itSq (eSlice (eVar 1) (ptSome (eOp oAdd (eVar 3) (eC (.int 1)))) ptNo)) (.one 7) (forS [6, 5] (itSq (eOp oIx (eOp oIx (eVar 0) (eVar 7)) (eC (.int 3)))) (.tup [8, 9]) (ifS (teAnd (eB (eOp oIsNot (eVar 9) (eC .none))) (eB (eOp oLe (eOp oIx (eVar 4) (eVar 9)) (eVar 3)))) (seqS (dputS [6, 5] 5 (eVar 7) (fun ρ => ((eCall2 oMax (eDget2 (eVar 5) (eVar 7) (eC (.int 0))) (eOp oSub (eVar 8) (eC (.int 1)))) ρ).bind scal)) (dputS [6, 5] 6 (eVar 9) (fun ρ => ((eCall2 oMax (eDget2 (eVar 6) (eVar 9) (eC (.int 0))) (eOp oSub (eVar 8) (eC (.int 1)))) ρ).bind scal))) nxS))) (retS (eCall2 oMin (eCall1 oSum (eComp (itDk 5) (.one 7) teYes (eOp oDix (eVar 5) (eVar 7)))) (eCall1 oSum (eComp (itDk 6) (.one 9) teYes (eOp oDix (eVar 6) (eVar 9)))))))))))
noncomputable def m_hold_asked : List PyData → Res PyData := runD 3 (seqS (exprS (eCall m_need_ranks (aCons (eVar 0) (aCons (eVar 1) aNil)))) (seqS (exprS (eCall m_need_errand (aCons (eVar 0) (aCons (eVar 2) aNil)))) (retS (eCall m_hold_by_asking (aCons (eVar 0) (aCons (eVar 1) (aCons (eVar 2) aNil)))))))
noncomputable def m__law_hold_asked : List PyData → Res PyData := runD 11 (seqS (setS [] 3 (eTupIx (eVar 1) (eVar 2))) (seqS (setS [] 4 (eCall m__law_heights (aCons (eVar 0) (aCons (eVar 1) aNil)))) (seqS (setS [] 5 (eC (.int 0))) (seqS (forS [] (itSq (eSlice (eVar 1) (ptSome (eOp oAdd (eVar 3) (eC (.int 1)))) ptNo)) (.one 6) (seqS (newS [] 7 (eCompL (itSq (eOp oIx (eOp oIx (eVar 0) (eVar 6)) (eC (.int 3)))) (.one 10) (teAnd (eB (eOp oIsNot (eOp oIx (eVar 10) (eC (.int 1))) (eC .none))) (eB (eOp oLe (eOp oIx (eVar 4) (eOp oIx (eVar 10) (eC (.int 1)))) (eVar 3)))) (eOp oSub (eOp oIx (eVar 10) (eC (.int 0))) (eC (.int 1))))) (seqS (setS [7] 5 (fun ρ => ((eOp oAdd (eVar 5) (eCall1 oMaxL (eOp oCatL (eLst (aCons (eC (.int 0)) aNil)) (eVar 7)))) ρ).bind scal)) nxS))) (seqS (setS [] 8 (eC (.int 0))) (seqS (forS [] (itR1 (eC (.int 4))) (.one 9) (ifS (teAnd (eB (eOp oIsNot (eOp oIx (eVar 4) (eVar 9)) (eC .none))) (eB (eOp oLe (eOp oIx (eVar 4) (eVar 9)) (eVar 3)))) (seqS (newS [] 7 (nLst (aCons (eC (.int 0)) aNil))) (seqS (forS [7] (itSq (eSlice (eVar 1) (ptSome (eOp oAdd (eVar 3) (eC (.int 1)))) ptNo)) (.one 6) (extS [7] 7 (fun ρ => (eComp (itSq (eOp oIx (eOp oIx (eVar 0) (eVar 6)) (eC (.int 3)))) (.one 10) (eB (eOp oEq (eOp oIx (eVar 10) (eC (.int 1))) (eVar 9))) (eOp oSub (eOp oIx (eVar 10) (eC (.int 0))) (eC (.int 1)))) (wipeD ρ [7])))) (seqS (setS [7] 8 (fun ρ => ((eOp oAdd (eVar 8) (eCall1 oMaxL (eVar 7))) ρ).bind scal)) nxS))) nxS)) (retS (eCall2 oMin (eVar 5) (eVar 8)))))))))
noncomputable def m__law_is_once_k26 : List PyData → Res PyData := runD 8 (seqS (setS [] 5 (fun ρ => eComp (itSq (eSlice (eVar 0) (ptSome (eVar 2)) (ptSome (eVar 3)))) (.one 6) (teAnd (eB (eOp oIsNot (eVar 6) (eC .none))) (eB (eOp oInT (eOp oIx (eVar 6) (eC (.int 0))) (eVar 1)))) (eVar 6) (wipeD ρ []))) (seqS (ifS (eB (eOp oGt (eCall1 oLen (eVar 5)) (eVar 4))) (retS (eC (.bool false))) nxS) (seqS (forS [] (itSq (eVar 5)) (.one 6) (seqS (ifS (teOr (eB (eOp oIs (eOp oIx (eVar 6) (eC (.int 3))) (eC .none))) (eB (eOp oNotIn (eVar 6) (eSlice (eVar 0) ptNo (ptSome (eVar 2)))))) (retS (eC (.bool false))) nxS) (forS [] (itSq (eVar 5)) (.one 7) (ifS (teAnd (teOr (eB (eOp oEq (eOp oIx (eVar 7) (eC (.int 0))) (eOp oIx (eVar 6) (eC (.int 0))))) (eB (eOp oEq (eOp oIx (eVar 7) (eC (.int 3))) (eOp oIx (eVar 6) (eC (.int 3)))))) (eB (eOp oNe (eVar 7) (eVar 6)))) (retS (eC (.bool false))) nxS)))) (retS (eC (.bool true))))))
noncomputable def m_longest_asked : List PyData → Res PyData := runD 3 (seqS (exprS (eCall m_need_ranks (aCons (eVar 0) (aCons (eVar 1) aNil)))) (seqS (exprS (eCall m_need_errand (aCons (eVar 0) (aCons (eVar 2) aNil)))) (retS (eCall m_last_of (aCons (eCall m_levels_with (aCons (eVar 0) (aCons (eVar 1) (aCons (eVar 2) (aCons (eCall m_hold_by_asking (aCons (eVar 0) (aCons (eVar 1) (aCons (eVar 2) aNil)))) aNil))))) aNil)))))
noncomputable def m_stretch : List PyData → Res PyData := runD 4 (seqS (exprS (eCall m_checked (aCons (eVar 0) aNil))) (seqS (setS [] 1 (eC (.int 1))) (seqS (whileS (eB (eOp oLe (eVar 1) (eC (.int 9999)))) (seqS (setS [] 2 (eCall1 oSum (eComp (itSq (eVar 0)) (.one 3) teYes (eOp oMul (eCall m_often (aCons (eVar 3) (aCons (eOp oAdd (eVar 1) (eC (.int 1))) aNil))) (eCall m_work_of (aCons (eVar 3) aNil)))))) (seqS (ifS (eB (eOp oEq (eVar 2) (eVar 1))) (retS (eVar 1)) nxS) (setS [] 1 (eVar 2))))) (retS (eC .none)))))
noncomputable def m__law_all_works : List PyData → Res PyData := runD 9 (seqS (setS [] 2 (eC (.int 0))) (seqS (forS [] (itSq (eVar 0)) (.tup [3, 4, 5, 6]) (seqS (setS [] 7 (eOp oAdd (eOp oDiv (eOp oAdd (eVar 1) (eVar 5)) (eVar 3)) (eC (.int 1)))) (setS [] 2 (eOp oAdd (eVar 2) (eOp oMul (eVar 7) (eCall1 oSum (eComp (itSq (eVar 6)) (.one 8) teYes (eOp oIx (eVar 8) (eC (.int 0)))))))))) (retS (eVar 2))))
noncomputable def m__law_soonest : List PyData → Res PyData := runD 7 (seqS (asgS [] (.tup [2, 3, 4, 5]) (eVar 0)) (retS (eOp oCatL (eLst (aCons (eC (.int 0)) aNil)) (eComp (itR3P (eOp oSub (eVar 2) (eVar 4)) (eOp oAdd (eVar 1) (eC (.int 1))) (eVar 2)) (.one 6) teYes (eVar 6)))))
noncomputable def m__wall : List PyData → Res PyData := runD 1 (whileS (eB (eC (.bool true))) nxS)
noncomputable def m_Hand_is_left_k29 : List PyData → Res PyData := runD 1 (exprS (eCall m__wall (aCons (eC (.int 0)) aNil)))
noncomputable def m_divisor : List PyData → Res PyData := runD 3 (seqS (whileS (eB (eOp oGt (eVar 1) (eC (.int 0)))) (seqS (setS [] 2 (eOp oMod (eVar 0) (eVar 1))) (seqS (setS [] 0 (eVar 1)) (setS [] 1 (eVar 2))))) (retS (eVar 0)))
noncomputable def m_whole_round : List PyData → Res PyData := runD 3 (seqS (setS [] 1 (eC (.int 1))) (seqS (forS [] (itSq (eVar 0)) (.one 2) (setS [] 1 (eOp oDiv (eOp oMul (eVar 1) (eOp oIx (eVar 2) (eC (.int 0)))) (eCall m_divisor (aCons (eVar 1) (aCons (eOp oIx (eVar 2) (eC (.int 0))) aNil)))))) (seqS (ifS (eB (eOp oGt (eVar 1) (eC (.int 2000)))) (raiseS "TooLong") nxS) (retS (eVar 1)))))
noncomputable def m_round_of : List PyData → Res PyData := runD 1 (retS (eCall m_whole_round (aCons (eCall m_checked (aCons (eVar 0) aNil)) aNil)))
noncomputable def m_need_calendar : List PyData → Res PyData := runD 3 (seqS (ifS (teOr (teNot (eB (eCall1 isaTuple (eVar 1)))) (eB (eOp oNe (eCall1 oLen (eVar 1)) (eCall1 oLen (eVar 0))))) (raiseS "NoComings") nxS) (ifS (teNot (eB (eCall1 oAll (eComp (itSq (eVar 1)) (.one 2) teYes (eCall m_between (aCons (eVar 2) (aCons (eC (.int 0)) (aCons (eC (.int 999)) aNil)))))))) (raiseS "NoComings") nxS))
noncomputable def m_Diary_key : List PyData → Res PyData := runD 5 (seqS (newS [] 2 (nLst aNil)) (seqS (forS [2] (itSq (eFld "Hand" "queues" (eFld "Diary" "hand" (eVar 0)))) (.one 3) (appS [2] 2 (fun ρ => (eCall1 oTuple (eComp (itSq (eVar 3)) (.one 4) teYes (eTup (aCons (eOp oSub (eVar 1) (eFld "Job" "come" (eVar 4))) (aCons (eFld "Job" "part" (eVar 4)) (aCons (eFld "Job" "spent" (eVar 4)) aNil)))))) (wipeD ρ [2])))) (retS (eCall1 oTuple (eVar 2)))))
noncomputable def m__law_strict : List PyData → Res PyData := runD 6 (seqS (newS [] 1 (nLst aNil)) (seqS (forS [1] (itSq (eVar 0)) (.tup [2, 3, 4, 5]) (appS [1] 1 (fun ρ => (eTup (aCons (eOp oIx (eLst (aCons (eC (.int 3)) (aCons (eC (.int 4)) (aCons (eC (.int 6)) (aCons (eC (.int 8)) (aCons (eC (.int 12)) aNil)))))) (eOp oMod (eVar 2) (eC (.int 5)))) (aCons (eC (.int 1)) (aCons (eC (.int 0)) (aCons (eVar 5) aNil))))) (wipeD ρ [1])))) (retS (eCall1 oTuple (eVar 1)))))
noncomputable def m_faster : List PyData → Res PyData := runD 7 (seqS (asgS [] (.tup [3, 4, 5, 6]) (eOp oIx (eVar 0) (eVar 1))) (retS (eOp oCatT (eOp oCatT (eSlice (eVar 0) ptNo (ptSome (eVar 1))) (eTup (aCons (eTup (aCons (eOp oSub (eVar 3) (eVar 2)) (aCons (eVar 4) (aCons (eVar 5) (aCons (eVar 6) aNil))))) aNil))) (eSlice (eVar 0) (ptSome (eOp oAdd (eVar 1) (eC (.int 1)))) ptNo))))
noncomputable def m_rush : List PyData → Res PyData := runD 5 (seqS (exprS (eCall m_need_ranks (aCons (eVar 0) (aCons (eVar 1) aNil)))) (seqS (exprS (eCall m_need_errand (aCons (eVar 0) (aCons (eVar 2) aNil)))) (seqS (ifS (teNot (eB (eCall m_all_in_time (aCons (eVar 0) (aCons (eVar 1) aNil))))) (retS (eC .none)) nxS) (seqS (setS [] 3 (eOp oSub (eOp oIx (eOp oIx (eVar 0) (eVar 2)) (eC (.int 0))) (eCall2 oMax (eC (.int 2)) (eOp oAdd (eOp oIx (eOp oIx (eVar 0) (eVar 2)) (eC (.int 1))) (eOp oIx (eOp oIx (eVar 0) (eVar 2)) (eC (.int 2))))))) (seqS (setS [] 4 (eC (.int 0))) (seqS (whileS (teAnd (eB (eOp oLt (eVar 4) (eVar 3))) (eB (eCall m_all_in_time (aCons (eCall m_faster (aCons (eVar 0) (aCons (eVar 2) (aCons (eOp oAdd (eVar 4) (eC (.int 1))) aNil)))) (aCons (eVar 1) aNil))))) (setS [] 4 (eOp oAdd (eVar 4) (eC (.int 1))))) (retS (eVar 4))))))))
noncomputable def m_law_k31 : List PyData → Res PyData := runD 12 (seqS (setS [] 1 (eCall m__law_errands (aCons (eVar 0) (aCons (eC (.int 8)) (aCons (eC (.int 4)) (aCons (eC (.int 18)) (aCons (eC (.bool true)) aNil))))))) (seqS (setS [] 2 (eCall m__law_ranks (aCons (eVar 0) (aCons (eC (.int 0)) (aCons (eCall1 oLen (eVar 1)) aNil))))) (seqS (ifS (teAnd (eB (eOp oGt (eCall m__law_mixed (aCons (eVar 0) (aCons (eC (.int 6)) (aCons (eC (.int 4)) aNil)))) (eC (.int 0)))) (eB (eOp oIsNot (eCall m_fitting (aCons (eVar 1) aNil)) (eC .none)))) (setS [] 2 (eCall m_fitting (aCons (eVar 1) aNil))) nxS) (seqS (forS [] (itR1 (eCall1 oLen (eVar 1))) (.one 3) (seqS (asgS [] (.tup [6, 7, 8, 9]) (eOp oIx (eVar 1) (eVar 3))) (seqS (setS [] 4 (eC .none)) (seqS (forS [] (itR1 (eVar 6)) (.one 5) (seqS (setS [] 10 (eTup (aCons (eOp oSub (eVar 6) (eVar 5)) (aCons (eVar 7) (aCons (eVar 8) (aCons (eVar 9) aNil)))))) (seqS (setS [] 11 (eOp oCatT (eOp oCatT (eSlice (eVar 1) ptNo (ptSome (eVar 3))) (eTup (aCons (eVar 10) aNil))) (eSlice (eVar 1) (ptSome (eOp oAdd (eVar 3) (eC (.int 1)))) ptNo))) (ifS (teAnd (eB (eOp oGe (eOp oSub (eVar 6) (eVar 5)) (eCall2 oMax (eC (.int 2)) (eOp oAdd (eVar 7) (eVar 8))))) (eB (eCall m__law_all_in_time (aCons (eVar 11) (aCons (eVar 2) aNil))))) (ifS (teOr (teAnd (eB (eOp oIs (eVar 4) (eC .none))) (eB (eOp oEq (eVar 5) (eC (.int 0))))) (eB (eOp oEq (eVar 4) (eOp oSub (eVar 5) (eC (.int 1)))))) (setS [] 4 (eVar 5)) nxS) nxS)))) (ifS (eB (eOp oNe (eCall m_rush (aCons (eVar 1) (aCons (eVar 2) (aCons (eVar 3) aNil)))) (eVar 4))) (retS (eC (.bool false))) nxS))))) (retS (eC (.bool true)))))))
noncomputable def m_sooner : List PyData → Res PyData := runD 7 (seqS (ifS (eB (eCall1 oAny (eComp (itSq (eVar 0)) (.one 2) teYes (eOp oLt (eOp oSub (eOp oIx (eVar 2) (eC (.int 1))) (eVar 1)) (eC (.int 1)))))) (retS (eC .none)) nxS) (retS (eCall1 oTuple (eComp (itSq (eVar 0)) (.tup [3, 4, 5, 6]) teYes (eTup (aCons (eVar 3) (aCons (eOp oSub (eVar 4) (eVar 1)) (aCons (eVar 5) (aCons (eVar 6) aNil)))))))))
noncomputable def m_roomiest : List PyData → Res PyData := runD 3 (seqS (setS [] 1 (eCall m_fitting_of (aCons (eCall m_checked (aCons (eVar 0) aNil)) aNil))) (seqS (ifS (eB (eOp oIs (eVar 1) (eC .none))) (retS (eC .none)) nxS) (seqS (setS [] 2 (eC (.int 0))) (seqS (whileS (teAnd (eB (eOp oIsNot (eCall m_sooner (aCons (eVar 0) (aCons (eOp oAdd (eVar 2) (eC (.int 1))) aNil))) (eC .none))) (eB (eOp oIsNot (eCall m_fitting_of (aCons (eCall m_sooner (aCons (eVar 0) (aCons (eOp oAdd (eVar 2) (eC (.int 1))) aNil))) aNil)) (eC .none)))) (seqS (setS [] 2 (eOp oAdd (eVar 2) (eC (.int 1)))) (setS [] 1 (eCall m_fitting_of (aCons (eCall m_sooner (aCons (eVar 0) (aCons (eVar 2) aNil))) aNil))))) (retS (eTup (aCons (eVar 2) (aCons (eVar 1) aNil))))))))
noncomputable def m__law_room : List PyData → Res PyData := runD 5 (seqS (newS [] 2 (nLst aNil)) (seqS (forS [2] (itSq (eVar 1)) (.one 3) (seqS (setS [2] 4 (fun ρ => (eCall m__law_longest (aCons (eVar 0) (aCons (eVar 1) (aCons (eVar 3) aNil)))) (wipeD ρ [2]))) (seqS (ifS (eB (eOp oIs (eVar 4) (eC .none))) (retS (eUn oNeg (eC (.int 1)))) nxS) (appS [2] 2 (fun ρ => (eOp oSub (eOp oIx (eOp oIx (eVar 0) (eVar 3)) (eC (.int 1))) (eVar 4)) (wipeD ρ [2])))))) (retS (eCall2 oMax (eUn oNeg (eC (.int 1))) (eCall1 oMinL (eVar 2))))))
noncomputable def m_law_k32 : List PyData → Res PyData := runD 5 (seqS (setS [] 1 (eCall m__law_errands (aCons (eVar 0) (aCons (eC (.int 0)) (aCons (eC (.int 4)) (aCons (eC (.int 18)) (aCons (eC (.bool true)) aNil))))))) (seqS (setS [] 2 (eCall m_roomiest (aCons (eVar 1) aNil))) (seqS (setS [] 3 (eCall1 oMaxL (eComp (itSq (eCall (m__law_orders 8) (aCons (eLstR1 (eCall1 oLen (eVar 1))) aNil))) (.one 4) teYes (eCall m__law_room (aCons (eVar 1) (aCons (eVar 4) aNil)))))) (seqS (ifS (eB (eOp oLt (eVar 3) (eC (.int 0)))) (retS (eOp oIs (eVar 2) (eC .none))) nxS) (seqS (ifS (teOr (teNot (eB (eCall1 isaTuple (eVar 2)))) (teOr (eB (eOp oNe (eCall1 oLen (eVar 2)) (eC (.int 2)))) (teOr (eB (eOp oNe (eOp oIx (eVar 2) (eC (.int 0))) (eVar 3))) (eB (eCall1 isaBool (eOp oIx (eVar 2) (eC (.int 0)))))))) (retS (eC (.bool false))) nxS) (seqS (ifS (teOr (teNot (eB (eCall1 isaTuple (eOp oIx (eVar 2) (eC (.int 1)))))) (eB (eOp oNe (eCall1 oSorted (eOp oIx (eVar 2) (eC (.int 1)))) (eLstR1 (eCall1 oLen (eVar 1)))))) (retS (eC (.bool false))) nxS) (retS (eOp oEq (eCall m__law_room (aCons (eVar 1) (aCons (eOp oIx (eVar 2) (eC (.int 1))) aNil))) (eVar 3)))))))))
noncomputable def m_is_bound : List PyData → Res PyData := runD 4 (seqS (exprS (eCall m_need_ranks (aCons (eVar 0) (aCons (eVar 1) aNil)))) (seqS (exprS (eCall m_need_errand (aCons (eVar 0) (aCons (eVar 2) aNil)))) (seqS (ifS (teNot (eB (eCall m_between (aCons (eVar 3) (aCons (eC (.int 1)) (aCons (eOp oSub (eOp oIx (eOp oIx (eVar 0) (eVar 2)) (eC (.int 0))) (eOp oIx (eOp oIx (eVar 0) (eVar 2)) (eC (.int 2)))) aNil)))))) (retS (eC (.bool false))) nxS) (retS (eOp oLe (eCall m_need_with (aCons (eVar 0) (aCons (eVar 1) (aCons (eVar 2) (aCons (eCall m_hold_of (aCons (eVar 0) (aCons (eVar 1) (aCons (eVar 2) aNil)))) (aCons (eVar 3) aNil)))))) (eVar 3))))))
noncomputable def m_is_never : List PyData → Res PyData := runD 6 (seqS (exprS (eCall m_checked (aCons (eVar 0) aNil))) (seqS (ifS (teOr (teNot (eB (eCall1 isaList (eVar 1)))) (eB (eOp oEq (eVar 1) (eLst aNil)))) (retS (eC (.bool false))) nxS) (seqS (ifS (teNot (eB (eCall1 oAll (eComp (itSq (eVar 1)) (.one 3) teYes (eAnd (eCall m_between (aCons (eVar 3) (aCons (eC (.int 0)) (aCons (eOp oSub (eCall1 oLen (eVar 0)) (eC (.int 1))) aNil)))) (eOp oEq (eCount (eVar 1) (eVar 3)) (eC (.int 1)))))))) (retS (eC (.bool false))) nxS) (seqS (setS [] 2 (eCall1 oTuple (eComp (itR1 (eCall1 oLen (eVar 0))) (.one 3) (eB (eOp oNotIn (eVar 3) (eVar 1))) (eVar 3)))) (seqS (forS [] (itSq (eVar 1)) (.one 3) (seqS (setS [] 4 (eOp oCatT (eOp oCatT (eCall1 oTuple (eComp (itSq (eVar 1)) (.one 5) (eB (eOp oNe (eVar 5) (eVar 3))) (eVar 5))) (eTup (aCons (eVar 3) aNil))) (eVar 2))) (ifS (eB (eCall m_is_in_time (aCons (eVar 0) (aCons (eVar 4) (aCons (eVar 3) aNil))))) (retS (eC (.bool false))) nxS))) (retS (eC (.bool true))))))))
noncomputable def m__law_spoilt : List PyData → Res PyData := runD 7 (seqS (setS [] 4 (fun ρ => eComp (itSq (eVar 1)) (.one 6) teYes (eCall1 oList (eVar 6)) (wipeD ρ []))) (seqS (newS [] 5 (nLst (aCons (eTup (aCons (eVar 4) (aCons (eVar 2) aNil))) (aCons (eTup (aCons (eVar 4) (aCons (eVar 2) aNil))) (aCons (eTup (aCons (eVar 4) (aCons (eVar 2) aNil))) (aCons (eTup (aCons (eVar 4) (aCons (eTup (aCons (eOp oIx (eVar 2) (eC (.int 0))) (aCons (eOp oAdd (eOp oIx (eVar 2) (eC (.int 1))) (eC (.int 1))) aNil))) aNil))) (aCons (eTup (aCons (eVar 4) (aCons (eCall1 oList (eVar 2)) aNil))) (aCons (eTup (aCons (eCall1 oTuple (eVar 4)) (aCons (eVar 2) aNil))) aNil)))))))) (seqS (extS [5] 5 (fun ρ => (eLst (aCons (eVar 4) (aCons (eTup (aCons (eSlice (eVar 4) (ptSome (eC (.int 1))) ptNo) (aCons (eVar 2) aNil))) (aCons (eTup (aCons (eVar 4) (aCons (eTup (aCons (eOp oIx (eVar 2) (eC (.int 0))) (aCons (eUn oNeg (eC (.int 1))) aNil))) aNil))) (aCons (eTup (aCons (eVar 4) (aCons (eTup (aCons (eOp oMod (eOp oAdd (eOp oIx (eVar 2) (eC (.int 0))) (eC (.int 1))) (eCall1 oLen (eVar 0))) (aCons (eC (.int 0)) aNil))) aNil))) (aCons (eC .none) aNil)))))) (wipeD ρ [5]))) (seqS (extS [5] 5 (fun ρ => (eLst (aCons (eTup (aCons (eOp oCatL (eSlice (eVar 4) ptNo (ptSome (eUn oNeg (eC (.int 1))))) (eLst (aCons (eLst (aCons (eC (.int 3)) (aCons (eC (.int 3)) aNil))) aNil))) (aCons (eVar 2) aNil))) (aCons (eTup (aCons (eVar 4) (aCons (eTup (aCons (eOp oIx (eVar 2) (eC (.int 0))) (aCons (eC (.bool true)) aNil))) aNil))) (aCons (eTup (aCons (eVar 4) (aCons (eVar 2) (aCons (eC (.int 1)) aNil)))) (aCons (eTup (aCons (eVar 4) (aCons (eSlice (eVar 2) ptNo (ptSome (eC (.int 1)))) aNil))) (aCons (eTup (aCons (eVar 4) (aCons (eC .none) aNil))) aNil)))))) (wipeD ρ [5]))) (retS (eOp oIx (eVar 5) (eOp oMod (eVar 3) (eC (.int 16)))))))))
noncomputable def m__law_never : List PyData → Res PyData := runD 6 (seqS (ifS (teOr (teNot (eB (eCall1 isaList (eVar 1)))) (teOr (eB (eOp oEq (eVar 1) (eLst aNil))) (eB (eOp oGt (eCall1 oLen (eVar 1)) (eCall1 oLen (eVar 0)))))) (retS (eC (.bool false))) nxS) (seqS (forS [] (itSq (eVar 1)) (.one 2) (seqS (ifS (teOr (eB (eCall1 isaBool (eVar 2))) (teOr (teNot (eB (eCall1 isaInt (eVar 2)))) (eB (eOp oGt (eCount (eVar 1) (eVar 2)) (eC (.int 1)))))) (retS (eC (.bool false))) nxS) (ifS (teNot (eChain oLe oLt (eC (.int 0)) (eVar 2) (eCall1 oLen (eVar 0)))) (retS (eC (.bool false))) nxS))) (seqS (setS [] 3 (eCall1 oTuple (eComp (itR1 (eCall1 oLen (eVar 0))) (.one 2) (eB (eOp oNotIn (eVar 2) (eVar 1))) (eVar 2)))) (seqS (forS [] (itSq (eVar 1)) (.one 2) (seqS (setS [] 4 (eOp oCatT (eOp oCatT (eCall1 oTuple (eComp (itSq (eVar 1)) (.one 5) (eB (eOp oNe (eVar 5) (eVar 2))) (eVar 5))) (eTup (aCons (eVar 2) aNil))) (eVar 3))) (ifS (eB (eCall m__law_in_time (aCons (eVar 0) (aCons (eVar 4) (aCons (eVar 2) aNil))))) (retS (eC (.bool false))) nxS))) (retS (eC (.bool true)))))))
noncomputable def m_work_k25 : List PyData → Res PyData := runD 2 (seqS (exprS (eCall m_checked (aCons (eVar 0) aNil))) (seqS (exprS (eCall m_need_errand (aCons (eVar 0) (aCons (eVar 1) aNil)))) badS))
noncomputable def m_heights_k25 : List PyData → Res PyData := runD 2 (seqS (exprS (eCall m_need_ranks (aCons (eVar 0) (aCons (eVar 1) aNil)))) badS)
noncomputable def m_checked_comings_k25 : List PyData → Res PyData := runD 3 (seqS (exprS (eCall m_checked (aCons (eVar 0) aNil))) (seqS (exprS (eCall m_need_comings (aCons (eVar 0) (aCons (eVar 1) aNil)))) badS))
noncomputable def m_run_k25 : List PyData → Res PyData := runD 7 (seqS (exprS (eCall m_need_ranks (aCons (eVar 0) (aCons (eVar 1) aNil)))) (seqS (exprS (eCall m_need_comings (aCons (eVar 0) (aCons (eVar 2) aNil)))) badS))
noncomputable def m_answers_k25 : List PyData → Res PyData := runD 9 (seqS (exprS (eCall m_need_ranks (aCons (eVar 0) (aCons (eVar 1) aNil)))) (seqS (exprS (eCall m_need_comings (aCons (eVar 0) (aCons (eVar 2) aNil)))) badS))
noncomputable def m_hold_k25 : List PyData → Res PyData := runD 3 (seqS (exprS (eCall m_need_ranks (aCons (eVar 0) (aCons (eVar 1) aNil)))) (seqS (exprS (eCall m_need_errand (aCons (eVar 0) (aCons (eVar 2) aNil)))) badS))
noncomputable def m_longest_asked_k25 : List PyData → Res PyData := runD 3 (seqS (exprS (eCall m_need_ranks (aCons (eVar 0) (aCons (eVar 1) aNil)))) (seqS (exprS (eCall m_need_errand (aCons (eVar 0) (aCons (eVar 2) aNil)))) badS))
noncomputable def m_hold_asked_k25 : List PyData → Res PyData := runD 3 (seqS (exprS (eCall m_need_ranks (aCons (eVar 0) (aCons (eVar 1) aNil)))) (seqS (exprS (eCall m_need_errand (aCons (eVar 0) (aCons (eVar 2) aNil)))) badS))
noncomputable def m_longest_k25 : List PyData → Res PyData := runD 3 (seqS (exprS (eCall m_need_ranks (aCons (eVar 0) (aCons (eVar 1) aNil)))) (seqS (exprS (eCall m_need_errand (aCons (eVar 0) (aCons (eVar 2) aNil)))) badS))
noncomputable def m_levels_k25 : List PyData → Res PyData := runD 3 (seqS (exprS (eCall m_need_ranks (aCons (eVar 0) (aCons (eVar 1) aNil)))) (seqS (exprS (eCall m_need_errand (aCons (eVar 0) (aCons (eVar 2) aNil)))) badS))
noncomputable def m_in_time_k25 : List PyData → Res PyData := runD 3 (seqS (exprS (eCall m_need_ranks (aCons (eVar 0) (aCons (eVar 1) aNil)))) badS)
noncomputable def m_stretch_k25 : List PyData → Res PyData := runD 4 (seqS (exprS (eCall m_checked (aCons (eVar 0) aNil))) badS)
noncomputable def m_whole_round_k25 : List PyData → Res PyData := (fun _ => .bad)
noncomputable def m_round_of_k25 : List PyData → Res PyData := runD 1 (retS (eCall m_whole_round_k25 (aCons (eCall m_checked (aCons (eVar 0) aNil)) aNil)))
noncomputable def m_by_calendar_k25 : List PyData → Res PyData := runD 9 (seqS (exprS (eCall m_need_ranks (aCons (eVar 0) (aCons (eVar 1) aNil)))) (seqS (exprS (eCall m_need_calendar (aCons (eVar 0) (aCons (eVar 2) aNil)))) badS))
noncomputable def m_sorted_out_k25 : List PyData → Res PyData := (fun _ => .bad)
noncomputable def m_fitting_of_k25 : List PyData → Res PyData := (fun _ => .bad)
noncomputable def m_fitting_k25 : List PyData → Res PyData := runD 1 (retS (eCall m_fitting_of_k25 (aCons (eCall m_checked (aCons (eVar 0) aNil)) aNil)))
noncomputable def m_never_k25 : List PyData → Res PyData := runD 2 (seqS (setS [] 1 (eOp oIx (eCall m_sorted_out_k25 (aCons (eCall m_checked (aCons (eVar 0) aNil)) aNil)) (eC (.int 0)))) badS)
noncomputable def m_why_never_k25 : List PyData → Res PyData := runD 7 (seqS (asgS [] (.tup [1, 2]) (eCall m_sorted_out_k25 (aCons (eCall m_checked (aCons (eVar 0) aNil)) aNil))) badS)
noncomputable def m_spare_k25 : List PyData → Res PyData := runD 4 (seqS (exprS (eCall m_need_ranks (aCons (eVar 0) (aCons (eVar 1) aNil)))) (seqS (exprS (eCall m_need_errand (aCons (eVar 0) (aCons (eVar 2) aNil)))) badS))
noncomputable def m_rush_k25 : List PyData → Res PyData := runD 5 (seqS (exprS (eCall m_need_ranks (aCons (eVar 0) (aCons (eVar 1) aNil)))) (seqS (exprS (eCall m_need_errand (aCons (eVar 0) (aCons (eVar 2) aNil)))) badS))
noncomputable def m_roomiest_k25 : List PyData → Res PyData := runD 3 (seqS (setS [] 1 (eCall m_fitting_of_k25 (aCons (eCall m_checked (aCons (eVar 0) aNil)) aNil))) badS)
noncomputable def m_fits_k25 : List PyData → Res PyData := runD 3 (retS (eOr (eOp oEq (eVar 1) (eLst aNil)) (eOp oIsNot (eCall m_fitting_of_k25 (aCons (eCall1 oTuple (eComp (itSq (eVar 1)) (.one 2) teYes (eOp oIx (eVar 0) (eVar 2)))) aNil)) (eC .none))))
noncomputable def m_dealt_on_k25 : Nat → List PyData → Res PyData
  | 0 => fun _ => .bad
  | k + 1 => runD 6 (seqS (ifS (eB (eOp oEq (eVar 1) (eLst aNil))) (retS (eVar 2)) nxS) (seqS (forS [] (itR1 (eCall1 oLen (eVar 2))) (.one 3) (seqS (setS [] 4 (eCall1 oSorted (eOp oCatL (eOp oIx (eVar 2) (eVar 3)) (eOp oIx (eVar 1) (eC (.int 0)))))) (ifS (teAnd (eB (eOp oNotIn (eOp oIx (eVar 2) (eVar 3)) (eSlice (eVar 2) ptNo (ptSome (eVar 3))))) (eB (eCall m_fits_k25 (aCons (eVar 0) (aCons (eVar 4) aNil))))) (seqS (setS [] 5 (eCall (m_dealt_on_k25 k) (aCons (eVar 0) (aCons (eSlice (eVar 1) (ptSome (eC (.int 1))) ptNo) (aCons (eOp oCatL (eOp oCatL (eSlice (eVar 2) ptNo (ptSome (eVar 3))) (eLst (aCons (eVar 4) aNil))) (eSlice (eVar 2) (ptSome (eOp oAdd (eVar 3) (eC (.int 1)))) ptNo)) aNil))))) (ifS (eB (eOp oIsNot (eVar 5) (eC .none))) (retS (eVar 5)) nxS)) nxS))) (retS (eC .none))))
noncomputable def m_dealing_of_k25 : List PyData → Res PyData := (fun _ => .bad)
noncomputable def m_dealt_k25 : List PyData → Res PyData := runD 2 (seqS (exprS (eCall m_checked (aCons (eVar 0) aNil))) (seqS (ifS (teNot (eB (eCall m_between (aCons (eVar 1) (aCons (eC (.int 1)) (aCons (eC (.int 4)) aNil)))))) (raiseS "NoNumber") nxS) badS))
noncomputable def m_fewest_hands_k25 : List PyData → Res PyData := runD 2 (seqS (exprS (eCall m_checked (aCons (eVar 0) aNil))) badS)
noncomputable def m_is_bound_k25 : List PyData → Res PyData := runD 4 (seqS (exprS (eCall m_need_ranks (aCons (eVar 0) (aCons (eVar 1) aNil)))) (seqS (exprS (eCall m_need_errand (aCons (eVar 0) (aCons (eVar 2) aNil)))) badS))
noncomputable def m_is_late_k25 : List PyData → Res PyData := runD 8 (seqS (exprS (eCall m_need_ranks (aCons (eVar 0) (aCons (eVar 1) aNil)))) (seqS (exprS (eCall m_need_errand (aCons (eVar 0) (aCons (eVar 2) aNil)))) badS))
noncomputable def m_is_never_k25 : List PyData → Res PyData := runD 6 (seqS (exprS (eCall m_checked (aCons (eVar 0) aNil))) badS)
noncomputable def m_worst_run_k25 : List PyData → Res PyData := runD 10 (seqS (exprS (eCall m_need_ranks (aCons (eVar 0) (aCons (eVar 1) aNil)))) (seqS (exprS (eCall m_need_errand (aCons (eVar 0) (aCons (eVar 2) aNil)))) badS))
noncomputable def m_part_text_k25 : List PyData → Res PyData := runD 1 (seqS (ifS (eB (eOp oIs (eOp oIx (eVar 0) (eC (.int 1))) (eC .none))) (retS (eCall1 oStr (eOp oIx (eVar 0) (eC (.int 0))))) nxS) (retS (eOp oCatS (eOp oCatS (eCall1 oStr (eOp oIx (eVar 0) (eC (.int 0)))) (eC (.str "*"))) (eCall1 oStr (eOp oIx (eVar 0) (eC (.int 1)))))))
noncomputable def m_text_of_k25 : List PyData → Res PyData := (fun _ => .bad)
noncomputable def m_shown_k25 : List PyData → Res PyData := runD 1 (retS (eCall m_text_of_k25 (aCons (eCall m_checked (aCons (eVar 0) aNil)) aNil)))
noncomputable def m__law_with_later_k25 : List PyData → Res PyData := runD 2 (seqS (ifS (eB (eOp oLt (eVar 0) (eC (.int 3)))) (retS (eCallIx [m_stretch_k25, m_round_of_k25, m_roomiest_k25] (eVar 0) (aCons (eVar 1) aNil))) nxS) (seqS (ifS (eB (eOp oLt (eVar 0) (eC (.int 6)))) (retS (eCallIx [m_hold_asked_k25, m_longest_asked_k25, m_rush_k25] (eOp oSub (eVar 0) (eC (.int 3))) (aCons (eVar 1) (aCons (eC .none) (aCons (eC .none) aNil))))) nxS) (seqS (ifS (eB (eOp oEq (eVar 0) (eC (.int 6)))) (retS (eCall m_by_calendar_k25 (aCons (eVar 1) (aCons (eC .none) (aCons (eC .none) aNil))))) nxS) (seqS (ifS (eB (eOp oLt (eVar 0) (eC (.int 9)))) (retS (eCallIx [m_is_bound_k25, m_is_late_k25] (eOp oSub (eVar 0) (eC (.int 7))) (aCons (eVar 1) (aCons (eC .none) (aCons (eC .none) (aCons (eC .none) aNil)))))) nxS) (retS (eCall m_is_never_k25 (aCons (eVar 1) (aCons (eC .none) aNil))))))))
noncomputable def m__law_with_errands_k25 : List PyData → Res PyData := runD 2 (seqS (ifS (eB (eOp oGt (eVar 0) (eC (.int 17)))) (retS (eCall m__law_with_later_k25 (aCons (eOp oSub (eVar 0) (eC (.int 18))) (aCons (eVar 1) aNil)))) nxS) (seqS (ifS (eB (eOp oLt (eVar 0) (eC (.int 6)))) (retS (eCallIx [m_checked, m_fitting_k25, m_never_k25, m_why_never_k25, m_fewest_hands_k25, m_shown_k25] (eVar 0) (aCons (eVar 1) aNil))) nxS) (seqS (ifS (eB (eOp oLt (eVar 0) (eC (.int 11)))) (retS (eCallIx [m_work_k25, m_heights_k25, m_checked_comings_k25, m_in_time_k25, m_dealt_k25] (eOp oSub (eVar 0) (eC (.int 6))) (aCons (eVar 1) (aCons (eC .none) aNil)))) nxS) (seqS (ifS (eB (eOp oLt (eVar 0) (eC (.int 16)))) (retS (eCallIx [m_hold_k25, m_longest_k25, m_levels_k25, m_spare_k25, m_worst_run_k25] (eOp oSub (eVar 0) (eC (.int 11))) (aCons (eVar 1) (aCons (eC .none) (aCons (eC .none) aNil))))) nxS) (retS (eCallIx [m_run_k25, m_answers_k25] (eOp oMod (eVar 0) (eC (.int 2))) (aCons (eVar 1) (aCons (eC .none) (aCons (eC .none) (aCons (eC (.str "high")) aNil))))))))))
noncomputable def m__law_with_ranks_k25 : List PyData → Res PyData := runD 3 (seqS (ifS (eB (eOp oGt (eVar 0) (eC (.int 11)))) (retS (eCall m_by_calendar_k25 (aCons (eVar 1) (aCons (eVar 2) (aCons (eC .none) aNil))))) nxS) (seqS (ifS (eB (eOp oGt (eVar 0) (eC (.int 8)))) (retS (eCallIx [m_hold_asked_k25, m_longest_asked_k25, m_rush_k25] (eOp oSub (eVar 0) (eC (.int 9))) (aCons (eVar 1) (aCons (eVar 2) (aCons (eC .none) aNil))))) nxS) (seqS (ifS (eB (eOp oLt (eVar 0) (eC (.int 2)))) (retS (eCallIx [m_heights_k25, m_in_time_k25] (eVar 0) (aCons (eVar 1) (aCons (eVar 2) aNil)))) nxS) (seqS (ifS (eB (eOp oLt (eVar 0) (eC (.int 7)))) (retS (eCallIx [m_hold_k25, m_longest_k25, m_levels_k25, m_spare_k25, m_worst_run_k25] (eOp oSub (eVar 0) (eC (.int 2))) (aCons (eVar 1) (aCons (eVar 2) (aCons (eC .none) aNil))))) nxS) (retS (eCallIx [m_run_k25, m_answers_k25] (eOp oMod (eVar 0) (eC (.int 2))) (aCons (eVar 1) (aCons (eVar 2) (aCons (eC .none) (aCons (eC (.str "high")) aNil))))))))))
noncomputable def m__law_asked_k25 : List PyData → Res PyData := runD 9 (seqS (setS [] 4 (eOp oDiv (eVar 3) (eC (.int 100)))) (seqS (ifS (eB (eOp oEq (eVar 2) (eC (.int 0)))) (retS (eCall m__law_with_errands_k25 (aCons (eOp oMod (eVar 4) (eC (.int 28))) (aCons (eOp oIx (eLst (aCons (eC .none) (aCons (eCall1 oList (eVar 0)) (aCons (eTup aNil) (aCons (eTup (aCons (eSlice (eOp oIx (eVar 0) (eC (.int 0))) ptNo (ptSome (eC (.int 3)))) aNil)) (aCons (eC (.int 5)) (aCons (eC (.str "errands")) aNil))))))) (eOp oMod (eVar 3) (eC (.int 6)))) aNil)))) nxS) (seqS (ifS (eB (eOp oEq (eVar 2) (eC (.int 1)))) (seqS (setS [] 5 (eOp oIx (eLst (aCons (eC .none) (aCons (eCall1 oList (eVar 1)) (aCons (eOp oCatT (eVar 1) (eSlice (eVar 1) ptNo (ptSome (eC (.int 1))))) (aCons (eTup aNil) (aCons (eOp oCatT (eSlice (eVar 1) (ptSome (eC (.int 1))) ptNo) (eTup (aCons (eCall1 oLen (eVar 1)) aNil))) (aCons (eOp oCatT (eSlice (eVar 1) (ptSome (eC (.int 1))) ptNo) (eTup (aCons (eUn oNeg (eC (.int 1))) aNil))) aNil))))))) (eOp oMod (eVar 3) (eC (.int 6))))) (retS (eCall m__law_with_ranks_k25 (aCons (eOp oMod (eVar 4) (eC (.int 13))) (aCons (eVar 0) (aCons (eVar 5) aNil)))))) nxS) (seqS (ifS (eB (eOp oEq (eVar 2) (eC (.int 2)))) (seqS (setS [] 6 (fun ρ => eComp (itSq (eVar 0)) (.one 8) teYes (eLst aNil) (wipeD ρ []))) (seqS (setS [] 5 (eLst (aCons (eC .none) (aCons (eCall1 oTuple (eVar 6)) (aCons (eOp oCatL (eVar 6) (eLst (aCons (eLst aNil) aNil))) (aCons (eSlice (eVar 6) (ptSome (eC (.int 1))) ptNo) (aCons (eOp oCatL (eSlice (eVar 6) (ptSome (eC (.int 1))) ptNo) (eLst (aCons (eTup (aCons (eC (.int 0)) aNil)) aNil))) (aCons (eOp oCatL (eSlice (eVar 6) (ptSome (eC (.int 1))) ptNo) (eLst (aCons (eLst (aCons (eC (.int 5)) (aCons (eC (.int 5)) aNil))) aNil))) (aCons (eOp oCatL (eSlice (eVar 6) (ptSome (eC (.int 1))) ptNo) (eLst (aCons (eLst (aCons (eC (.bool true)) aNil)) aNil))) aNil))))))))) (seqS (setS [] 5 (eOp oIx (eOp oCatL (eVar 5) (eLst (aCons (eOp oCatL (eSlice (eVar 6) (ptSome (eC (.int 1))) ptNo) (eLst (aCons (eLst (aCons (eUn oNeg (eC (.int 1))) aNil)) aNil))) (aCons (eOp oCatL (eSlice (eVar 6) (ptSome (eC (.int 1))) ptNo) (eLst (aCons (eC .none) aNil))) aNil)))) (eOp oMod (eVar 3) (eC (.int 9))))) (seqS (ifS (eB (eOp oEq (eOp oMod (eVar 4) (eC (.int 4))) (eC (.int 3)))) (retS (eCall m_by_calendar_k25 (aCons (eVar 0) (aCons (eVar 1) (aCons (eOp oIx (eLst (aCons (eC .none) (aCons (eRep (nLst (aCons (eC (.int 0)) aNil)) (eCall1 oLen (eVar 0))) (aCons (eOp oRepT (eTup (aCons (eC (.int 0)) aNil)) (eOp oAdd (eCall1 oLen (eVar 0)) (eC (.int 1)))) (aCons (eTup (aCons (eUn oNeg (eC (.int 1))) aNil)) aNil))))) (eOp oMod (eVar 3) (eC (.int 4)))) aNil))))) nxS) (seqS (ifS (eB (eOp oEq (eOp oMod (eVar 4) (eC (.int 4))) (eC (.int 0)))) (retS (eCall m_checked_comings_k25 (aCons (eVar 0) (aCons (eVar 5) aNil)))) nxS) (retS (eCallIx [m_run_k25, m_answers_k25] (eOp oMod (eVar 4) (eC (.int 2))) (aCons (eVar 0) (aCons (eVar 1) (aCons (eVar 5) (aCons (eOp oIx (eLst (aCons (eC (.str "high")) (aCons (eC (.str "asked")) (aCons (eC (.str "none")) aNil)))) (eOp oDiv (eOp oMod (eVar 4) (eC (.int 5))) (eC (.int 2)))) aNil))))))))))) nxS) (seqS (ifS (eB (eOp oEq (eVar 2) (eC (.int 3)))) (seqS (setS [] 5 (eOp oIx (eLst (aCons (eUn oNeg (eC (.int 1))) (aCons (eCall1 oLen (eVar 0)) (aCons (eC (.bool true)) (aCons (eC .none) (aCons (eC (.str "0")) aNil)))))) (eOp oMod (eVar 3) (eC (.int 5))))) (seqS (ifS (eB (eOp oEq (eOp oMod (eVar 4) (eC (.int 11))) (eC (.int 10)))) (retS (eCall m_work_k25 (aCons (eVar 0) (aCons (eVar 5) aNil)))) nxS) (seqS (ifS (eB (eOp oGt (eOp oMod (eVar 4) (eC (.int 11))) (eC (.int 7)))) (retS (eCallIx [m_is_bound_k25, m_is_late_k25] (eOp oMod (eVar 4) (eC (.int 2))) (aCons (eVar 0) (aCons (eVar 1) (aCons (eVar 5) (aCons (eC .none) aNil)))))) nxS) (fnsRetS 7 [m_hold_k25, m_longest_k25, m_levels_k25, m_spare_k25, m_worst_run_k25, m_hold_asked_k25, m_longest_asked_k25, m_rush_k25] (eOp oMod (eVar 4) (eC (.int 11))) (aCons (eVar 0) (aCons (eVar 1) (aCons (eVar 5) aNil))))))) nxS) (retS (eCall m_dealt_k25 (aCons (eVar 0) (aCons (eOp oIx (eLst (aCons (eC (.int 0)) (aCons (eC (.int 5)) (aCons (eC (.bool true)) (aCons (eC .none) (aCons (eC (.str "1")) (aCons (eUn oNeg (eC (.int 1))) aNil))))))) (eOp oMod (eVar 3) (eC (.int 6)))) aNil)))))))))
noncomputable def m_law_k25 : List PyData → Res PyData := runD 6 (seqS (setS [] 1 (eCall m__law_errands (aCons (eVar 0) (aCons (eC (.int 10)) (aCons (eC (.int 4)) (aCons (eC (.int 28)) (aCons (eC (.bool true)) aNil))))))) (seqS (setS [] 2 (eCall m__law_ranks (aCons (eVar 0) (aCons (eC (.int 2)) (aCons (eCall1 oLen (eVar 1)) aNil))))) (seqS (setS [] 3 (eCall m__law_mixed (aCons (eVar 0) (aCons (eC (.int 0)) (aCons (eC (.int 5)) aNil))))) (seqS (tryKindS ["NoErrands", "NoRanks", "NoComings", "NoErrand", "NoNumber"] 4 3 (exprS (eCall m__law_asked_k25 (aCons (eVar 1) (aCons (eVar 2) (aCons (eVar 3) (aCons (eCall m__law_mixed (aCons (eVar 0) (aCons (eC (.int 1)) (aCons (eOp oPow (eC (.int 10)) (eC (.int 6))) aNil)))) aNil))))))) (retS (eC (.bool false)))))))
noncomputable def m_work : List PyData → Res PyData := runD 2 (seqS (exprS (eCall m_checked (aCons (eVar 0) aNil))) (seqS (exprS (eCall m_need_errand (aCons (eVar 0) (aCons (eVar 1) aNil)))) (retS (eCall m_work_of (aCons (eOp oIx (eVar 0) (eVar 1)) aNil)))))
noncomputable def m__law_odd : List PyData → Res PyData := runD 10 (seqS (asgS [] (.tup [2, 3, 4, 5]) (eVar 0)) (seqS (setS [] 6 (eOp oIx (eVar 5) (eUn oNeg (eC (.int 1))))) (seqS (newS [] 7 (nLst (aCons (eOp oCatT (eVar 0) (eTup (aCons (eC (.int 1)) aNil))) (aCons (eSlice (eVar 0) ptNo (ptSome (eC (.int 3)))) (aCons (eCall1 oList (eVar 0)) (aCons (eC .none) (aCons (eC (.int 5)) (aCons (eTup (aCons (eC (.int 1)) (aCons (eC (.int 1)) (aCons (eC (.int 0)) (aCons (eVar 5) aNil))))) (aCons (eTup (aCons (eC (.int 61)) (aCons (eVar 3) (aCons (eVar 4) (aCons (eVar 5) aNil))))) aNil))))))))) (seqS (extS [7] 7 (fun ρ => (eLst (aCons (eTup (aCons (eC (.bool true)) (aCons (eC (.int 1)) (aCons (eC (.int 0)) (aCons (eVar 5) aNil))))) (aCons (eTup (aCons (eVar 2) (aCons (eC (.int 0)) (aCons (eVar 4) (aCons (eVar 5) aNil))))) (aCons (eTup (aCons (eVar 2) (aCons (eOp oAdd (eOp oSub (eVar 2) (eVar 4)) (eC (.int 1))) (aCons (eVar 4) (aCons (eVar 5) aNil))))) aNil)))) (wipeD ρ [7]))) (seqS (extS [7] 7 (fun ρ => (eLst (aCons (eTup (aCons (eVar 2) (aCons (eVar 3) (aCons (eVar 2) (aCons (eVar 5) aNil))))) (aCons (eTup (aCons (eC (.int 60)) (aCons (eC (.int 1)) (aCons (eC (.int 21)) (aCons (eVar 5) aNil))))) (aCons (eTup (aCons (eVar 2) (aCons (eVar 3) (aCons (eUn oNeg (eC (.int 1))) (aCons (eVar 5) aNil))))) (aCons (eTup (aCons (eVar 2) (aCons (eC (.str "1")) (aCons (eVar 4) (aCons (eVar 5) aNil))))) aNil))))) (wipeD ρ [7]))) (seqS (newS [7] 8 (nLst (aCons (eTup aNil) (aCons (eOp oRepT (eTup (aCons (eVar 6) aNil)) (eC (.int 5))) (aCons (eLst (aCons (eVar 6) aNil)) (aCons (eTup (aCons (eTup (aCons (eC (.int 0)) (aCons (eC .none) aNil))) aNil)) (aCons (eTup (aCons (eTup (aCons (eC (.int 21)) (aCons (eC .none) aNil))) aNil)) (aCons (eTup (aCons (eTup (aCons (eC (.str "1")) (aCons (eC .none) aNil))) aNil)) (aCons (eTup (aCons (eTup (aCons (eC (.int 1)) (aCons (eC (.int 4)) aNil))) (aCons (eVar 6) aNil))) (aCons (eTup (aCons (eTup (aCons (eC (.int 1)) (aCons (eUn oNeg (eC (.int 1))) aNil))) (aCons (eVar 6) aNil))) aNil)))))))))) (seqS (extS [8, 7] 8 (fun ρ => (eLst (aCons (eTup (aCons (eTup (aCons (eC (.int 1)) (aCons (eC (.int 0)) aNil))) aNil)) (aCons (eTup (aCons (eTup (aCons (eC (.int 1)) (aCons (eC (.bool true)) aNil))) (aCons (eVar 6) aNil))) (aCons (eTup (aCons (eTup (aCons (eC (.int 1)) aNil)) (aCons (eVar 6) aNil))) (aCons (eC .none) aNil))))) (wipeD ρ [8, 7]))) (seqS (extS [7] 7 (fun ρ => (eComp (itSq (eVar 8)) (.one 9) teYes (eTup (aCons (eVar 2) (aCons (eVar 3) (aCons (eVar 4) (aCons (eVar 9) aNil)))))) (wipeD ρ [7]))) (retS (eOp oIx (eVar 7) (eOp oMod (eVar 1) (eC (.int 26)))))))))))))
noncomputable def m__law_spoilt_k01 : List PyData → Res PyData := runD 3 (seqS (ifS (eB (eOp oEq (eOp oMod (eVar 1) (eC (.int 6))) (eC (.int 0)))) (retS (eOp oIx (eLst (aCons (eCall1 oList (eVar 0)) (aCons (eTup aNil) (aCons (eSlice (eOp oRepT (eVar 0) (eC (.int 7))) ptNo (ptSome (eC (.int 7)))) (aCons (eC .none) (aCons (eOp oIx (eVar 0) (eC (.int 0))) (aCons (eC (.str "errands")) aNil))))))) (eOp oMod (eOp oDiv (eVar 1) (eC (.int 6))) (eC (.int 6))))) nxS) (seqS (setS [] 2 (eOp oMod (eOp oDiv (eVar 1) (eC (.int 6))) (eCall1 oLen (eVar 0)))) (retS (eOp oCatT (eOp oCatT (eSlice (eVar 0) ptNo (ptSome (eVar 2))) (eTup (aCons (eCall m__law_odd (aCons (eOp oIx (eVar 0) (eVar 2)) (aCons (eOp oDiv (eVar 1) (eC (.int 31))) aNil))) aNil))) (eSlice (eVar 0) (ptSome (eOp oAdd (eVar 2) (eC (.int 1)))) ptNo)))))
noncomputable def m__law_refused : List PyData → Res PyData := runD 2 (seqS (tryRetS "NoErrands" 1 (.bool true) (exprS (eCall m_checked (aCons (eVar 0) aNil)))) (retS (eC (.bool false))))
noncomputable def m_law_k01 : List PyData → Res PyData := runD 5 (seqS (setS [] 1 (eCall m__law_errands (aCons (eVar 0) (aCons (eC (.int 2)) (aCons (eC (.int 4)) (aCons (eC (.int 28)) (aCons (eC (.bool true)) aNil))))))) (seqS (setS [] 2 (eOp oRepT (eTup (aCons (eTup (aCons (eC (.int 60)) (aCons (eC (.int 40)) (aCons (eC (.int 20)) (aCons (eTup (aCons (eTup (aCons (eC (.int 20)) (aCons (eC (.int 3)) aNil))) (aCons (eTup (aCons (eC (.int 20)) (aCons (eC (.int 0)) aNil))) (aCons (eTup (aCons (eC (.int 1)) (aCons (eC .none) aNil))) (aCons (eTup (aCons (eC (.int 20)) (aCons (eC .none) aNil))) aNil))))) aNil))))) (aCons (eTup (aCons (eC (.int 2)) (aCons (eC (.int 1)) (aCons (eC (.int 1)) (aCons (eTup (aCons (eTup (aCons (eC (.int 1)) (aCons (eC .none) aNil))) aNil)) aNil))))) aNil))) (eC (.int 3)))) (seqS (ifS (teOr (eB (eOp oNe (eCall m_checked (aCons (eVar 1) aNil)) (eVar 1))) (eB (eOp oNe (eCall m_checked (aCons (eVar 2) aNil)) (eVar 2)))) (retS (eC (.bool false))) nxS) (seqS (forS [] (itR1 (eCall1 oLen (eVar 1))) (.one 3) (ifS (eB (eOp oNe (eCall m_work (aCons (eVar 1) (aCons (eVar 3) aNil))) (eCall1 oSum (eComp (itSq (eOp oIx (eOp oIx (eVar 1) (eVar 3)) (eC (.int 3)))) (.one 4) teYes (eOp oIx (eVar 4) (eC (.int 0))))))) (retS (eC (.bool false))) nxS)) (seqS (tryS "NoErrand" (exprS (eCall m_work (aCons (eVar 1) (aCons (eOp oIx (eLst (aCons (eCall1 oLen (eVar 1)) (aCons (eUn oNeg (eC (.int 1))) (aCons (eC (.bool true)) (aCons (eC .none) aNil))))) (eCall m__law_mixed (aCons (eVar 0) (aCons (eC (.int 0)) (aCons (eC (.int 4)) aNil))))) aNil)))) (retS (eCall m__law_refused (aCons (eCall m__law_spoilt_k01 (aCons (eVar 1) (aCons (eCall m__law_mixed (aCons (eVar 0) (aCons (eC (.int 1)) (aCons (eOp oPow (eC (.int 10)) (eC (.int 6))) aNil)))) aNil))) aNil)))) (retS (eC (.bool false))))))))
end L2.DL
set_option maxHeartbeats 2000000
/-! A list comprehension whose step may raise: what is raised leaves the def's block, then the def. -/
namespace L2
open PySem PySem.Spec PyProof.Rows
section
variable {M : Model} {A : Around} {E : Value → Shared → Prop} {s : Shared} {env : Env}
/-- what is asked behind a block: its end, or what it let out, on its way -/
def CoEnd (M : Model) (A : Around) (E : Value → Shared → Prop) (env : Env) (C : Addr) (Q : Shared → Prop) (r : Result) (s' : Shared) : Prop :=
  ∃ m, s'.heap.Ns C m ∧ ∀ h', Heap.SameBut C s'.heap h' → match r with
    | .ok _ => Q { s' with heap := h' }
    | .error x => wpAny M A (passOn "comprehension.variables-let-go" x env : Sem Value) (fun _ _ => False) E { s' with heap := h' }
theorem comp_runs {e : Expr} {scope : Scope} {pos : Pos} {newAcc first : Sem Value} {g : Comprehension} {gs : List Comprehension} {cl : List (Str × Addr)} {Q : Value → Shared → Prop}
    (hcl : clausesOf e = g :: gs) (hs : ∀ x, foldedSetIterable g.iter env x = pure x) (hclos : closureFor scope env = pure cl) (hkind : scope.kind = .function) (hnames : ∀ x ∈ scope.names, x.2 = .local → scope.names.lookup x.1 = some .local)
    (h : wpAny M A first (fun x s₁ => wpAny M A (pyIter x) (fun it s₂ => wpAny M A newAcc (fun acc s₃ =>
      codeAny M A (.compStart e 0 it acc (compEnvC scope (cellsFrom (s₃.heap.objs.size + 1) scope.names cl) s₃.heap.objs.size env)) (CoEnd M A E (compEnvC scope (cellsFrom (s₃.heap.objs.size + 1) scope.names cl) s₃.heap.objs.size env) s₃.heap.objs.size (Q acc))
        { s₃ with heap := pushCells (s₃.heap.push { cls := .type "dict", data := .dict #[] }) scope.names }) E s₂) E s₁) E s) :
    wpAny M A (comprehension e scope env pos newAcc false first none) Q E s := by
  have own : ∀ x ∈ (scope.names.filter fun x => (x.2 == .local || x.2 == .cell) && x.1 != (".0" : Str)).reverse, x.2 = .local → List.lookup x.1 (relabel scope env).names = some .local := fun x hx hl =>
    lookup_relabel_local (hnames x (List.mem_filter.mp (List.mem_reverse.mp hx)).1 hl)
  unfold comprehension
  rw [hclos, hcl]
  refine wpAny_bind (wpAny_mono h (fun x s₁ h₁ => ?_) fun _ _ z => z)
  refine wpAny_bind (wpAny_standAt (wpAny_bind (wpAny_of_eq (hs x) (wpAny_bind (wpAny_holding (wpAny_mono h₁ (fun it s₂ h₂ => ?_) fun _ _ z => z))))))
  refine wpAny_standIf (wpAny_bind (wpAny_mono h₂ (fun acc s₃ h₃ => ?_) fun _ _ z => z))
  refine wpAny_bind (wpAny_pure (wpAny_bind (newEnv_comp ?_)))
  refine wpAny_holding (wpAny_bind (wpAny_attempt (wpAny_holding (wpAny_run (codeAny_mono h₃ fun r s' hr => ?_)))))
  obtain ⟨m, hn, hr⟩ := hr
  cases r with
  | ok f => exact wpAny_bind (wpAny_holding (wpAny_comp_letGo (cenv := compEnvC scope (cellsFrom (s₃.heap.objs.size + 1) scope.names cl) s₃.heap.objs.size env) hkind _ s' m own hn fun h' m' _ hs' => wpAny_pure (hr h' hs')))
  | error x => exact wpAny_bind (wpAny_holding (wpAny_comp_letGo (cenv := compEnvC scope (cellsFrom (s₃.heap.objs.size + 1) scope.names cl) s₃.heap.objs.size env) hkind _ s' m own hn fun h' m' _ hs' => wpAny_mono (hr h' hs') (fun _ _ f => f.elim) fun _ _ y => y))
end
end L2
set_option maxHeartbeats 2000000
namespace L2
open PySem PySem.Spec PyProof.Rows

/-! ### what flies does so where one object of the ground is let go -/
theorem frames_but {h h' base base' : Heap} {C : Addr} (hb : ∀ L, base.get? L = none → base'.get? L = none) (hC : base.get? C ≠ none) (k : ∀ b, b ≠ C → h'.get? b = h.get? b) : ∀ {l : List Env}, h.FunFrames base l → h'.FunFrames base' l
  | [], _ => trivial
  | env :: rest, ⟨h1, ⟨L, o, h2, h3, h4, h5⟩, h6⟩ => by
    refine ⟨h1, ⟨L, o, h2, hb L h3, ?_, h5⟩, frames_but hb hC k h6⟩
    rw [k L (fun z => hC (z ▸ h3))]
    exact h4
theorem traced_but {h h' base base' : Heap} {C a : Addr} {Z : Obj → Prop} {fl : Value} (hb : ∀ L, base.get? L = none → base'.get? L = none) (hC : base.get? C ≠ none) (ha : a ≠ C) (k : ∀ b, b ≠ C → h'.get? b = h.get? b) (x : HandSPX.TracedZ h base a Z fl) : HandSPX.TracedZ h' base' a Z fl := by
  obtain ⟨oe, vs, T, oT, ts, he, hz, hd, h1, hnT, hTe, hT, hdT, h3⟩ := x
  exact ⟨oe, vs, T, oT, ts, by rw [k a ha]; exact he, hz, hd, h1, hb T hnT, hTe, by rw [k T fun z => hC (z ▸ hnT)]; exact hT, hdT, h3⟩
/-- a ground without C -/
def butC (B : Heap) (C : Addr) : Heap := PySem.W.hideAll B [C]
theorem butC_get {B : Heap} {C b : Addr} {o : Obj} (h : B.get? b = some o) (n : b ≠ C) : (butC B C).get? b = some o := PySem.W.hideAll_get _ h (by simpa using n)
theorem of_butC {B : Heap} {C b : Addr} {o : Obj} (h : (butC B C).get? b = some o) : B.get? b = some o ∧ b ≠ C := ⟨PySem.W.of_hideAll _ h, fun z => by
  have n : (butC B C).get? C = none := PySem.W.hideAll_none _ (by simp)
  rw [z, n] at h
  cases h⟩
theorem butC_none {B : Heap} {C L : Addr} (h : B.get? L = none) : (butC B C).get? L = none := by
  cases q : (butC B C).get? L with
  | none => rfl
  | some o =>
    have := (of_butC q).1
    rw [h] at this
    cases this
theorem held_but {h h' B : Heap} {C a L : Addr} {Z : Obj → Prop} {l : List Env} (hC : B.get? C ≠ none) (sb : Heap.SameBut C h h') (x : HandSPX.HeldZ B l a Z L h) : HandSPX.HeldZ (butC B C) l a Z L h' := by
  obtain ⟨x1, x2, x3, x4⟩ := x
  have ha : a ≠ C := fun z => hC (z ▸ x2)
  have k : ∀ b, b ≠ C → h'.get? b = h.get? b := fun b n => sb.2 b n
  refine ⟨fun b o e => ?_, butC_none x2, frames_but (fun _ => butC_none) hC k x3, traced_but (fun _ => butC_none) hC ha k x4⟩
  obtain ⟨e1, n⟩ := of_butC e
  rw [k b n]
  exact x1 b o e1
/-- from a block's start (s2, H2; fp turns in it) through a call's raise (from sc, Hc) to the def's air, the block's names C let go -/
theorem block_air {X : Cx} {pins : List (Addr × Obj)} {σ : L2.St} {H2 Hc H' : Hp} {s2 sc s' : Shared} {fp : List Addr} {C a : Addr} {B h4 : Heap} {W : WX} {cls : Value} {d : Option Addr}
    (I2 : Inv X pins σ H2 s2) (u : Un (frs X.stack) fp H2 Hc s2.heap sc.heap) (hfp : ∀ b ∈ fp, FpOk X pins H2 b) (hC2 : s2.heap.get? C = none) (hCs : C ∉ frs X.stack)
    (hok : HOk X.prog X.w H' B) (ub : UB (frs X.stack) Hc H' sc.heap B s'.heap) (st : B.StaysIn s'.heap) (hC : B.get? C ≠ none) (hCn : H' C = none)
    (os : sc.os = s2.os) (os' : s'.os = sc.os) (ag : AllBare s'.gens) (na : H' a = none) (hW : W cls d σ H')
    (up : ∀ b o, s'.heap.get? b = some o → b ≠ C → (∀ vs, o.data ≠ .fields vs) → ∃ sl, h4.get? b = some { o with slots := sl }) (keepB : ∀ b o, (butC B C).get? b = some o → h4.get? b = some o)
    (held : HandSPX.HeldZ (butC B C) X.stack a (Zc cls d) X.env.locals h4) : XE X W (.ref a) { s' with heap := h4 } := by
  obtain ⟨G, g1, g2⟩ := restrict s'.heap fun b => ((butC B C).get? b).isSome || decide (b ∈ frs X.stack)
  have gB : ∀ b o, (butC B C).get? b = some o → G.get? b = some o := fun b o e => by
    rw [g1 b (by simp [e])]
    exact st b o (of_butC e).1
  have gF : ∀ b, b ∈ frs X.stack → G.get? b = s'.heap.get? b := fun b hb => g1 b (by simp [hb])
  have og : ∀ b o, G.get? b = some o → s'.heap.get? b = some o ∧ ((∃ o', (butC B C).get? b = some o') ∨ b ∈ frs X.stack) := fun b o e => by
    cases q : (((butC B C).get? b).isSome || decide (b ∈ frs X.stack)) with
    | false => rw [g2 b q] at e; cases e
    | true =>
      rw [g1 b q] at e
      refine ⟨e, ?_⟩
      rcases Bool.or_eq_true_iff.mp q with z | z
      · exact .inl (Option.isSome_iff_exists.mp z)
      · exact .inr (of_decide_eq_true z)
  have neC : ∀ b o, s2.heap.get? b = some o → b ≠ C := fun b o e z => by rw [z, hC2] at e; cases e
  refine ⟨a, butC B C, { s2 with heap := G, gens := s'.gens, drawn := s'.drawn, toks := s'.toks }, pins, σ, H', cls, d, rfl, ?_, fun b o e hb => ?_, fun b o e nf => ?_, .inr (.inr held), na, os'.trans os, ag, hW⟩
  · refine I2.call (ch := fp) ⟨fun b o e n hb hx => ?_, fun b o e n hb hx => ?_, fun b o e n hx => ?_, fun b o e hx => ?_, fun b xs e => ub.tups b xs (u.tups b xs e), fun b o v e => ub.frzs b o v (u.frzs b o v e), fun b ps e => ?_⟩ (fun b o q => (hok b o q).stay (fun c v hc r => gB c v (butC_get r fun z => ?_)) (fun _ q => q) fun _ _ q => q) ag fun b hb => ⟨(hfp b hb).2.2.2.1, (hfp b hb).2.1, (hfp b hb).2.2.2.2.1, (hfp b hb).2.2.2.2.2⟩
    · exact gB b o (butC_get (ub.keep b o (u.keep b o e n hb hx) (u.free b o e n hx) hb) (neC b o e))
    · obtain ⟨sl, e1⟩ := u.slot b o e n hb hx
      obtain ⟨sl2, e2⟩ := ub.slot b _ e1 hb
      exact ⟨sl2, by rw [gF b hb]; exact e2⟩
    · obtain ⟨o', e1⟩ := u.there b o e hx
      exact ub.free b o' e1 (u.free b o e n hx)
    · obtain ⟨o', e1⟩ := u.there b o e hx
      by_cases hb : b ∈ frs X.stack
      · obtain ⟨sl2, e2⟩ := ub.slot b _ e1 hb
        exact ⟨_, by rw [gF b hb]; exact e2⟩
      · obtain ⟨o2, e2⟩ := ub.there b o' e1 hb
        exact ⟨o2, gB b o2 (butC_get e2 (neC b o e))⟩
    · obtain ⟨more, e1⟩ := u.tbls b ps e
      obtain ⟨more2, e2⟩ := ub.tbls b _ e1
      exact ⟨more ++ more2, by rw [e2]; simp⟩
    · rcases hc with hc | hc
      · rw [← hc, z, hCn] at q; cases q
      · rw [z, hCn] at hc; cases hc
  · obtain ⟨e', h⟩ := og b o e
    rcases h with ⟨o', q⟩ | h
    · have z := st b o' (of_butC q).1
      rw [e'] at z; cases z
      exact q
    · exact absurd h hb
  · obtain ⟨e', h⟩ := og b o e
    refine up b o e' (fun z => ?_) nf
    rcases h with ⟨o', q⟩ | h
    · exact (of_butC q).2 z
    · exact hCs (z ▸ h)
end L2
set_option maxHeartbeats 2000000
namespace L2
open PySem PySem.Spec PyProof.Rows

/-- what leaves the block's code: a call's exception -/
def xbOf (X Y : Cx) (W : WX) (σ0 : L2.St) : Value → Shared → Prop := fun u s' => ∃ pins σ H s, Inv Y pins σ H s ∧ L2.CX X.prog X.w X.stack H s (fun cls d H' => W cls d σ0 H') u s'
abbrev blkX (X : Cx) (W : WX) (σ0 : L2.St) (s : Shared) (H : Hp) (scope : Scope) (cenv : Env) (fp : List Addr) : Cx := { X.blk s H scope cenv fp with xe := xbOf X (X.blk s H scope cenv fp) W σ0 }
theorem Inv.xe {Y : Cx} {pins : List (Addr × Obj)} {σ : L2.St} {H : Hp} {s : Shared} (f g : Value → Shared → Prop) (I : Inv { Y with xe := f } pins σ H s) : Inv { Y with xe := g } pins σ H s :=
  ⟨⟨I.ok.mod, I.ok.kind, I.ok.glob, I.ok.blt, I.ok.above, I.ok.inj, I.ok.has, I.ok.cab, I.ok.hd, I.ok.frames, I.ok.stk, I.ok.exf, I.ok.bs, I.ok.bsz, I.ok.noex, I.ok.exfs, I.ok.funs, I.ok.frf⟩, I.os, I.bare, I.base, I.loc, I.cell, I.free, I.freeC, I.pin, I.hok, I.len⟩
theorem passB {X : Cx} {W : WX} {σ0 : L2.St} {s : Shared} {H : Hp} {scope : Scope} {cenv : Env} {fp : List Addr} (σ : L2.St) : PassesAt (L2.CX X.prog X.w) (blkX X W σ0 s H scope cenv fp) σ (fun cls d H' => W cls d σ0 H') :=
  fun pins H1 s1 e s' I c => ⟨pins, σ, H1, s1, Inv.xe _ (fun _ _ => False) I, c⟩
/-- the turns of a block, from any state of its loop on; hE: what its code lets out -/
theorem loop_lets {Y : Cx} {elt tg iter : Expr} {ifs : List Expr} {scope : Scope} {pos : Pos} {it D : Addr} {fp : List Addr} {tn : Nat → Heap → Prop} {J : It} {g : TG} {tt : TT} {te : TE} {vs : List Nat} {σ0 : L2.St} {R : Result → Shared → Prop} {W : Nat → Nat → Hp → Prop} {Q : VK}
    (hc : Y.calm = true) (hE : ∀ u s', Y.xe u s' → notedBy (model Y.prog Y.w) Y.A Y.env (fun e s'' => R (.error e) s'') u s') (T : Turn Y.prog Y.w Y.K tg J fp it tn) (stat : ∀ H', (∀ b ∈ fp, H' b = none) → ∀ b ∈ fp, FpOk Y [] H' b)
    (hg : PG Y tg g) (ht : PTs Y ifs tt) (he : PE Y elt te)
    (hl : ∀ σ2 : L2.St, wipe σ2 vs = σ0 → σ0.length = σ2.length)
    (turn : ∀ i m H, W i m H → (J.stop i H ∧ Q (.ref D) H) ∨ (J.go i H ∧ ∃ Nx : Hp → Prop, (∀ H', Nx H' → ∃ m', m' < m ∧ W (i + 1) m' H') ∧ ∀ x H', J.yld i H x H' → g x σ0 H' fun σ2 H2 => wipe σ2 vs = σ0 ∧ tt σ2 H2 fun b H3 =>
      if b = true then te σ2 H3 fun y H4 => ∃ acc, H4 D = some (.lst acc) ∧ acc.length < sizeLine ∧ Nx (upd H4 D (.lst (acc ++ [y]))) else Nx H3))
    (hR : ∀ H' s', Inv Y [] σ0 H' s' → Q (.ref D) H' → R (.ok .next) s') {m : Nat} {i : Nat} {H : Hp} {s : Shared} (I : Inv Y [] σ0 H s) (st : tn i s.heap) (nf : ∀ b ∈ fp, H b = none) (w0 : W i m H) :
    codeAny (model Y.prog Y.w) Y.A (.compLoop (.ListComp elt [⟨tg, iter, ifs, 0⟩] scope pos) 0 (.ref it) (.ref D) Y.env) R s := by
  have up : ∀ {α : Type} {t : Sem α} {Q1 Q2 : α → Shared → Prop} {s : Shared}, wpAny (model Y.prog Y.w) Y.A t Q1 Y.xe s → (∀ a s, Q1 a s → Q2 a s) → wpAny (model Y.prog Y.w) Y.A t Q2 (notedBy (model Y.prog Y.w) Y.A Y.env fun e s'' => R (.error e) s'') s :=
    fun h k => wpAny_mono h k hE
  refine compLoop_any (fun n s => ∃ i H, Inv Y [] σ0 H s ∧ tn i s.heap ∧ (∀ b ∈ fp, H b = none) ∧ W i n H) ?_ m ⟨i, H, I, st, nf, w0⟩
  rintro n s1 ⟨i, H1, I1, st1, n1, w1⟩
  rcases turn i n H1 w1 with ⟨stop, q⟩ | ⟨go, Nx, less, step⟩
  · refine up (T.done Y rfl rfl rfl hc i [] s1 σ0 H1 Y.xe I1 (stat H1 n1) st1 stop) fun r s2 ⟨hr, I2⟩ => ?_
    subst hr
    exact hR H1 s2 I2 q
  · refine up (T.item Y rfl rfl rfl hc i [] s1 σ0 H1 Y.xe I1 (stat H1 n1) st1 go) fun r s2 ⟨u, hr, h2⟩ => ?_
    subst hr
    refine up h2 fun _ s3 ⟨x, H3, I3, r3, y3, st3, n3⟩ => ?_
    have held := I3.pinned (stat H3 n3) (T.obj _ _ st3)
    refine up (hg.run _ s3 σ0 H3 x u _ held r3 (step x H3 y3)) fun _ s4 ⟨σ4, H4, I4, e4, q4⟩ => ?_
    have again : ∀ {s' : Shared} {H' : Hp}, Inv Y ([] ++ pinsAt fp s3.heap) σ4 H' s' → Nx H' → ∃ m, m < n ∧ ∃ i H, Inv Y [] σ0 H s' ∧ tn i s'.heap ∧ (∀ b ∈ fp, H b = none) ∧ W i m H := fun {s' H'} I' nx => by
      obtain ⟨m', lt, w'⟩ := less H' nx
      have kept : ∀ b ∈ fp, ∀ o, s3.heap.get? b = some o → s'.heap.get? b = some o ∧ H' b = none := fun b hb o e =>
        ⟨(I'.pin (b, o) (List.mem_append_right _ (List.mem_append_right _ (mem_pinsAt hb e)))).1, (I'.pin (b, o) (List.mem_append_right _ (List.mem_append_right _ (mem_pinsAt hb e)))).2.1⟩
      refine ⟨m', lt, i + 1, H', (I'.unpinned (pins := [])).weak (hl σ4 e4) (fun j v e => ?_), T.keep _ _ _ st3 fun b hb o e => (kept b hb o e).1, fun b hb => ?_, w'⟩
      · rw [← e4] at e
        exact (wipe_some e).1
      · obtain ⟨o, e, _⟩ := T.obj _ _ st3 b hb
        exact (kept b hb o e).2
    refine up (ht.run _ s4 σ4 H4 _ I4 q4) fun b s5 ⟨H5, I5, q5⟩ => ?_
    cases b with
    | false => exact again I5 q5
    | true =>
      refine up (he.run _ s5 σ4 H5 _ I5 q5) fun z s6 ⟨yv, H6, I6, r6, acc, hD, hz, nx⟩ => ?_
      exact app_ok I6 hD hz r6 fun s7 I7 => again I7 nx
/-- a comprehension in a def whose step's calls may raise; te is told the def's slots -/
theorem pe_lcX {X : Cx} {W : WX} {elt tg iter : Expr} {ifs : List Expr} {scope : Scope} {own : List (Str × Nat)} {pos : Pos} {wi : TI} {g : TG} {tt : TT} {te : L2.St → TE} (hc : X.calm = true) (hstk : X.stack = X.env :: X.outer) (hf : X.env.frame = some X.env.locals) (tk : Takes X W) (hN : X.N.Nodup)
    (hi : PI X tg iter wi) (ok : BlkOk X.N X.env.scope scope own)
    (hg : ∀ (σ0 : L2.St) (s : Shared) (H : Hp) (C : Addr) (cl : List (Str × Addr)) (fp : List Addr), PG (blkX X W σ0 s H scope (compEnvC scope cl C X.env) fp) tg g)
    (ht : ∀ (σ0 : L2.St) (s : Shared) (H : Hp) (C : Addr) (cl : List (Str × Addr)) (fp : List Addr), PTs (blkX X W σ0 s H scope (compEnvC scope cl C X.env) fp) ifs tt)
    (he : ∀ (σ0 : L2.St) (s : Shared) (H : Hp) (C : Addr) (cl : List (Str × Addr)) (fp : List Addr), PE (blkX X W σ0 s H scope (compEnvC scope cl C X.env) fp) elt (te σ0)) (hs : ∀ x, foldedSetIterable iter X.env x = pure x := by intro _; rfl) :
    PE X (.ListComp elt [⟨tg, iter, ifs, 0⟩] scope pos) (fun σ H Q => tLc wi g tt (te σ) (own.map (·.2)) σ H Q) := by
  refine ⟨fun pins s σ H Q I h => ?_⟩
  have cells : ∀ y ∈ scope.names, y.2 = .free → ∃ c, X.env.cells.lookup y.1 = some c := fun y hy e => I.ok.has _ (ok.free y hy e)
  rw [eval_ListComp]
  refine comp_runs rfl hs (closure_ok cells) ok.kind (fun y hy e => by rw [ok.uniq y hy, e]) (thn (hi.run pins s σ H _ I h) fun _ _ hx => thn hx fun itv s2 ⟨it, fp, tn, J, H2, e, I2, T, st2, f2, q⟩ => ?_)
  subst e
  refine wpAny_newObj_type ?_ (show 0 ≤ sizeLine by decide)
  -- the list that is made, the state of the block
  let o : Obj := { cls := .type "list", data := .seq ([] : List Value).toArray }
  let s3 : Shared := { s2 with heap := s2.heap.push o }
  let D : Addr := s2.heap.objs.size
  have nD : H2 D = none := I2.hok.fresh (Nat.le_refl _)
  obtain ⟨Wt, ⟨m0, w0⟩, turn⟩ := q D nD
  have I3 : Inv X pins σ (upd H2 D (.lst [])) s3 := I2.laid (t' := s2.toks) (fun b o e => Heap.get?_push_of_some _ e) (Nat.le_refl _) ⟨Nat.zero_le _, [], 0, .nil, Heap.get?_push_size _ rfl⟩
  have young : ∀ b ∈ fp, b < D := fun b hb => let ⟨_, e, _⟩ := T.obj _ _ st2 b hb; Heap.lt_size e
  have f3 : ∀ b ∈ fp, FpOk X pins (upd H2 D (.lst [])) b ∧ b < s3.heap.objs.size := fun b hb =>
    ⟨⟨(upd_ne (Nat.ne_of_lt (young b hb))).trans (f2 b hb).1, (f2 b hb).2⟩, by rw [show s3.heap.objs.size = D + 1 from Heap.size_push ..]; exact Nat.lt_succ_of_lt (young b hb)⟩
  have I4 := block_start I3 ok hN f3
  have hYg := hg σ s3 (upd H2 D (.lst [])) s3.heap.objs.size (cellsFrom (s3.heap.objs.size + 1) scope.names (cloFrom X.env.cells scope.names [])) fp
  have hYt := ht σ s3 (upd H2 D (.lst [])) s3.heap.objs.size (cellsFrom (s3.heap.objs.size + 1) scope.names (cloFrom X.env.cells scope.names [])) fp
  have hYe := he σ s3 (upd H2 D (.lst [])) s3.heap.objs.size (cellsFrom (s3.heap.objs.size + 1) scope.names (cloFrom X.env.cells scope.names [])) fp
  have st4 : tn 0 (pushCells (s3.heap.push { cls := .type "dict", data := .dict #[] }) scope.names) := T.keep _ _ _ st2 fun b _ o e => pushCells_keeps _ _ _ _ (Heap.get?_push_of_some _ (Heap.get?_push_of_some _ e))
  have n4 : ∀ b ∈ fp, upd H2 D (.lst []) b = none := fun b hb => (f3 b hb).1.1
  have hD3 : ∀ b o, s2.heap.get? b = some o → upd H2 D (.lst []) b = H2 b := fun b o e => upd_ne (Nat.ne_of_lt (Heap.lt_size e))
  have hup : ∀ b u, H2 b = some u → upd H2 D (.lst []) b = some u := fun b u e => by rw [upd_ne (fun z => by rw [z, nD] at e; cases e)]; exact e
  generalize hH3 : upd H2 D (.lst []) = H3 at *
  generalize hce : compEnvC scope (cellsFrom (s3.heap.objs.size + 1) scope.names (cloFrom X.env.cells scope.names [])) s3.heap.objs.size X.env = ce at *
  have cL : ce.locals = s3.heap.objs.size := by rw [← hce]; rfl
  have cF : ce.frame = X.env.frame := by rw [← hce]; rfl
  let Y0 := X.blk s3 H3 scope ce fp
  let s4 : Shared := { s3 with heap := pushCells (s3.heap.push { cls := .type "dict", data := .dict #[] }) scope.names }
  have loop : codeAny (model X.prog X.w) X.A (.compLoop (.ListComp elt [⟨tg, iter, ifs, 0⟩] scope pos) 0 (.ref it) (.ref D) ce) (CoEnd (model X.prog X.w) X.A X.xe ce s3.heap.objs.size (EP X pins σ Q (.ref D))) s4 := by
    refine loop_lets (Y := blkX X W σ s3 H3 scope ce fp) (vs := own.map (·.2)) (σ0 := wipe σ (own.map (·.2))) (W := Wt) (Q := Q) hc (fun u s' x => ?_) T (fun H' hn b hb => ?_) hYg hYt hYe (fun σ2 e => by rw [← e, wipe_length]) turn (fun H' s' J' q => ?_) (Inv.xe (fun _ _ => False) _ I4) st4 n4 w0
    · -- what was raised: noted, the names let go, on
      obtain ⟨pins', σ', Hc, sc, Jc, a, B, H', cls, d, rfl, fl, hok, ub, na, os, ag, hW⟩ := x
      have nc0 : H3 s3.heap.objs.size = none := I3.hok.fresh (Nat.le_refl _)
      obtain ⟨_, c1, c2, _⟩ := I3.fpOk (Nat.le_refl _) nc0
      have hCs : s3.heap.objs.size ∉ frs X.stack := fun hm => (List.mem_cons.mp (I3.stkSub _ hm)).elim c1 c2
      have hC2 : s2.heap.get? s3.heap.objs.size = none := by
        cases z : s2.heap.get? s3.heap.objs.size with
        | none => rfl
        | some v => exact absurd (Heap.lt_size z) (by rw [show s3.heap.objs.size = D + 1 from Heap.size_push ..]; exact Nat.not_lt.mpr (Nat.le_succ _))
      obtain ⟨m, hns, _⟩ := Jc.loc
      have hns : sc.heap.Ns s3.heap.objs.size m := cL ▸ (show sc.heap.Ns ce.locals m from hns)
      have hcn : Hc s3.heap.objs.size = none := cL ▸ (show Hc ce.locals = none from Jc.free)
      obtain ⟨oC, es, ep, hoC, hrest⟩ := id hns
      have hB : B.get? s3.heap.objs.size = some oC := ub.keep _ _ hoC hcn hCs
      have hCne : B.get? s3.heap.objs.size ≠ none := by rw [hB]; simp
      have u : Un (frs X.stack) fp H2 Hc s2.heap sc.heap := by
        have b0 : Un (frs X.stack) fp H3 Hc s3.heap sc.heap := Jc.base
        have pu : ∀ b o, s2.heap.get? b = some o → s3.heap.get? b = some o := fun b o e => Heap.get?_push_of_some _ e
        exact ⟨fun b o e n hb hx => b0.keep b o (pu b o e) (by rw [hD3 b o e]; exact n) hb hx, fun b o e n hb hx => b0.slot b o (pu b o e) (by rw [hD3 b o e]; exact n) hb hx, fun b o e n hx => b0.free b o (pu b o e) (by rw [hD3 b o e]; exact n) hx, fun b o e hx => b0.there b o (pu b o e) hx,
          fun b xs e => b0.tups b xs (hup b _ e), fun b o v e => b0.frzs b o v (hup b _ e), fun b ps e => b0.tbls b ps (hup b _ e)⟩
      have hnote : noteFrame (.ref a) ce = noteFrame (.ref a) X.env := by
        unfold noteFrame PySem.frameOf
        rw [cF]
      have hfr : X.A.frames = some (X.env :: X.outer) := by rw [I.ok.frames, hstk]
      show wpAny _ X.A (noteFrame (.ref a) ce) _ _ s'
      rw [hnote]
      have fl' := fl
      rw [hstk] at fl'
      refine HandSPX.looks_onZ Zc.steady hfr hf fl' fun h1 held up1 => ?_
      refine ⟨m, ⟨oC, es, ep, held.1 _ _ hB, hrest⟩, fun h2 sb => ?_⟩
      have held2 := held_but hCne sb held
      obtain ⟨x1, x2, x3, oe, vs, T1, oT, ts, ge, gz, gd, g1, gT⟩ := id held2
      unfold PySem.passOn
      refine wpAny_bind (wpAny_field ge gd g1 ?_)
      rw [if_neg (show ¬ ((Value.ref T1 == Value.none) = true) from Bool.false_ne_true), cF, hf]
      refine wpAny_bind (HandSPX.setFlight_onZ held2 fun h3 held3 up3 => wpAny_throw (tk _ _ ?_))
      refine block_air (s' := s') (h4 := h3) I2 u f2 hC2 hCs hok ub fl.1 hCne (ub.free _ _ hoC hcn) Jc.os os ag na hW (fun b o e nb nf => ?_) held3.1 (by rw [hstk]; exact held3)
      obtain ⟨sl1, e1⟩ := up1 b o e nf
      have e2 : h2.get? b = some { o with slots := sl1 } := (sb.2 b nb).trans e1
      obtain ⟨sl3, e3⟩ := up3 b _ e2 nf
      exact ⟨sl3, e3⟩
    · exact ⟨hn b hb, (I4.ok.exf b hb).1, I4.ok.exfs b hb, .inl hb, fun x c e => (I4.ok.exf b hb).2 x c e, fun p hp => by simp at hp⟩
    · -- back in the def
      have I7 : Inv X pins σ H' s' := I3.call' (ch := fp) J'.os J'.base J'.hok J'.bare fun b hb => ⟨(f2 b hb).2.2.2.1, (f2 b hb).2.1, (f2 b hb).2.2.2.2.1, (f2 b hb).2.2.2.2.2⟩
      have nC : H' s3.heap.objs.size = none := cL ▸ (show H' ce.locals = none from J'.free)
      obtain ⟨f0, f1, f2', f3', f4, f5⟩ := I3.fpOk (Nat.le_refl _) nC
      obtain ⟨m, hn, _⟩ := J'.loc
      exact ⟨m, cL ▸ (show s'.heap.Ns ce.locals m from hn), fun h'' sb => ⟨.ref D, H', I7.turned (t' := s'.toks) (fun b o hb e => (sb.2 b hb).trans e) f0 f1 f3' f4 f5, rfl, q⟩⟩
  exact codeAny_compStart_list loop (T.self X.A 0 _ _ _ st4 loop)
end L2
set_option maxHeartbeats 2000000
namespace L2.DL
open PySem PySem.Spec PyProof.Rows

/-! ### a comprehension over data whose step may raise -/
def compDE (t : Tgt) (c : Te) (e : Ex) (ρ : Env) : List PyData → Res (List PyData)
  | [] => .ok []
  | d :: ds => (bindT t d ρ).bind fun ρ1 => (noErr (c ρ1)).bind fun k => if k = true then (e ρ1).bind fun x => (compDE t c e ρ ds).bind fun xs => .ok (x :: xs) else compDE t c e ρ ds
def eCompE (it : Itr') (t : Tgt) (c : Te) (e : Ex) : Ex := fun ρ => (it ρ).bind fun ds => if ds.length < 16777216 then (compDE t c e (wipeD ρ t.slots) ds).bind fun xs => .ok (.list xs) else .bad
theorem Res.bind_assoc {α β γ : Type} (r : Res α) (f : α → Res β) (g : β → Res γ) : (r.bind f).bind g = r.bind fun x => (f x).bind g := by cases r <;> rfl
theorem compDE_cons {t : Tgt} {c : Te} {e : Ex} {ρ : Env} {d : PyData} {ds : List PyData} : compDE t c e ρ (d :: ds) = (bindT t d ρ).bind fun ρ1 => (noErr (c ρ1)).bind fun k => if k = true then (e ρ1).bind fun x => (compDE t c e ρ ds).bind fun xs => .ok (x :: xs) else compDE t c e ρ ds := rfl
theorem compDE_app {t : Tgt} {c : Te} {e : Ex} {ρ : Env} : ∀ (l l' : List PyData), compDE t c e ρ (l ++ l') = (compDE t c e ρ l).bind fun ys => (compDE t c e ρ l').bind fun zs => .ok (ys ++ zs)
  | [], l' => by
    show compDE t c e ρ l' = (compDE t c e ρ l').bind fun zs => .ok ([] ++ zs)
    cases compDE t c e ρ l' <;> rfl
  | d :: l, l' => by
    show compDE t c e ρ (d :: (l ++ l')) = _
    rw [compDE_cons, compDE_cons]
    cases h1 : bindT t d ρ with
    | ok ρ1 =>
      rw [Res.bind_ok, Res.bind_ok]
      cases h2 : noErr (c ρ1) with
      | ok k =>
        rw [Res.bind_ok, Res.bind_ok]
        cases k with
        | false =>
          rw [if_neg Bool.false_ne_true, if_neg Bool.false_ne_true]
          exact compDE_app l l'
        | true =>
          rw [if_pos rfl, if_pos rfl]
          cases h3 : e ρ1 with
          | ok x =>
            rw [Res.bind_ok, Res.bind_ok, compDE_app l l']
            cases compDE t c e ρ l with
            | ok ys =>
              rw [Res.bind_ok, Res.bind_ok, Res.bind_ok]
              cases compDE t c e ρ l' <;> rfl
            | err q => rfl
            | bad => rfl
          | err q => rfl
          | bad => rfl
      | err q => rfl
      | bad => rfl
    | err q => rfl
    | bad => rfl
theorem bindT_noerr {t : Tgt} {d : PyData} {ρ : Env} {q : Str} : bindT t d ρ ≠ .err q := fun h => by
  cases t with
  | one i => cases h
  | tup is => cases d <;> simp only [bindT] at h <;> first | cases h | (split at h <;> cases h)
theorem noErr_noerr {α : Type} {r : Res α} {q : Str} : noErr r ≠ .err q := fun h => by cases r <;> cases h
def PostCE (K : PySem.W.Frag) (mg : Str → Option Value) (W : WX) (σ : L2.St) (H : Hp) (Q : VK) (it : Itr') (t : Tgt) (c : Te) (e : Ex) (ρ : Env) : Prop := match it ρ with
  | .ok ds => ds.length < 16777216 ∧ (match compDE t c e (wipeD ρ t.slots) ds with
    | .ok xs => ∀ D vs H', H D = none → Same H (cut [D] H') → H' D = some (.lst vs) → DpAll K (cut [D] H') vs xs → Q (.ref D) H'
    | .err c => ∃ C, mg c = some (.ref C) ∧ ∀ (d : D0) H', Same H H' → W (.ref C) d σ H'
    | .bad => False)
  | .err c => ∃ C, mg c = some (.ref C) ∧ ∀ (d : D0) H', Same H H' → W (.ref C) d σ H'
  | .bad => False
/-- the wish at the def's slots -/
abbrev WAt (W : WX) (σ0 : L2.St) : WX := fun cls d _ H => W cls d σ0 H
theorem tLc_ofE {K : PySem.W.Frag} {mg : Str → Option Value} {W : WX} {it : Itr'} {t : Tgt} {c : Te} {e : Ex} {σ : L2.St} {H : Hp} {Q : VK} (h : ∃ ρ, DpS K H σ ρ ∧ PostCE K mg W σ H Q it t c e ρ) :
    tLc (tDI K mg W it) (tgG K t) (tDT K mg W0 c) (tFr (tD K mg (WAt W σ) e)) t.slots σ H Q := by
  obtain ⟨ρ, hρ, h⟩ := h
  refine ⟨ρ, hρ, ?_⟩
  unfold PostCE at h
  cases ei : it ρ with
  | err q => rw [ei] at h; exact h
  | bad => rw [ei] at h; exact h
  | ok ds =>
    rw [ei] at h
    obtain ⟨hlen, h⟩ := h
    intro J H1 s1 w D hD
    have hρ1 : DpS K H1 (wipe σ t.slots) (wipeD ρ t.slots) := dps_wipe (hρ.mono s1) _
    refine lc_it w.walk (fun i H' => Same H1 (cut [D] H') ∧ ∃ vs ys, H' D = some (.lst vs) ∧ DpAll K (cut [D] H') vs ys ∧ compDE t c e (wipeD ρ t.slots) (ds.take i) = .ok ys ∧ vs.length ≤ i) ?_ ?_ ?_ ?_
    · have nD : ∀ b o, H1 b = some o → b ≠ D := fun b o q z => by rw [z, hD] at q; cases q
      refine ⟨fun b o q => ?_, [], [], upd_same, .nil, rfl, Nat.zero_le _⟩
      rw [cut_out (by simpa using nD b o q), upd_ne (nD b o q)]
      exact q
    · exact fun i H' _ ⟨s, _⟩ => s.trans cutSame
    · rintro i x H2 H3 hi ⟨s2, vs, ys, eD, hvs, hys, hl⟩ ⟨d, hd, y⟩
      have s2' : Same H1 H2 := s2.trans cutSame
      obtain ⟨s3, hx⟩ := dp_yd s2' y
      have eD3 : H3 D = some (.lst vs) := s3 _ _ eD
      have hxc : Dp K (cut [D] H3) x d := by
        rcases y with ⟨rfl, h⟩ | ⟨T, o, us, es, hdn, hT, rfl, rfl, ha, rfl⟩
        · exact dpMono s2 h
        · have nT : T ∉ [D] := fun z => by
            have e' : T = D := by simpa using z
            rw [e', eD] at hT; cases hT
          rw [cut_upd nT]
          have nT2 : cut [D] H2 T = none := by rw [cut_out nT]; exact hT
          exact .tup (.inl ⟨o, upd_same, hdn⟩) (dpAllMono (s2.trans (sameUpd nT2)) ha)
      have s3c : Same (cut [D] H2) (cut [D] H3) := cutMono s3
      have hρ3 : DpS K (cut [D] H3) (wipe σ t.slots) (wipeD ρ t.slots) := hρ1.mono (s2.trans s3c)
      have htake : ds.take (i + 1) = ds.take i ++ [d] := by rw [List.take_succ, hd]; rfl
      have hsplit : ds = ds.take i ++ d :: ds.drop (i + 1) := by
        obtain ⟨hi', e'⟩ := List.getElem?_eq_some_iff.mp hd
        rw [← e', ← List.drop_eq_getElem_cons hi', List.take_append_drop]
      have whole : compDE t c e (wipeD ρ t.slots) ds = (compDE t c e (wipeD ρ t.slots) (d :: ds.drop (i + 1))).bind fun zs => .ok (ys ++ zs) := by
        conv => lhs; rw [hsplit, compDE_app, hys, Res.bind_ok]
      have next : ∀ zs, compDE t c e (wipeD ρ t.slots) [d] = .ok zs → compDE t c e (wipeD ρ t.slots) (ds.take (i + 1)) = .ok (ys ++ zs) := fun zs hz => by
        rw [htake, compDE_app, hys, Res.bind_ok, hz]
        rfl
      rw [compDE_cons] at whole
      cases eb : bindT t d (wipeD ρ t.slots) with
      | err q => exact absurd eb bindT_noerr
      | bad => rw [eb] at whole; rw [whole] at h; exact h.elim
      | ok ρ2 =>
        rw [eb, Res.bind_ok] at whole
        refine tgG_of cutSame hxc hρ3 eb fun σ2 o2 hρ2' => ⟨wipe_same (wipe_idem.trans o2), ?_⟩
        cases ecn : c ρ2 with
        | err q => rw [ecn] at whole; rw [whole] at h; exact h.elim
        | bad => rw [ecn] at whole; rw [whole] at h; exact h.elim
        | ok k =>
          rw [ecn, noErr_ok, Res.bind_ok] at whole
          have one : compDE t c e (wipeD ρ t.slots) [d] = if k = true then (e ρ2).bind fun x => .ok [x] else .ok [] := by
            rw [compDE_cons]
            simp only [eb, ecn, Res.bind_ok, noErr_ok, compDE]
          refine ⟨ρ2, hρ2'.mono cutSame, ?_⟩
          rw [ecn]
          intro H4 s4
          have eD4 : H4 D = some (.lst vs) := s4 _ _ eD3
          have s4c : Same (cut [D] H3) (cut [D] H4) := cutMono s4
          cases k with
          | false =>
            refine iteF ⟨s2.trans (s3c.trans s4c), vs, ys, eD4, dpAllMono (s3c.trans s4c) hvs, ?_, by omega⟩
            have z := next [] (by rw [one, if_neg Bool.false_ne_true])
            simpa using z
          | true =>
            rw [if_pos rfl] at whole
            refine iteT ?_
            have hρ2c : DpS K (cut [D] H4) σ2 ρ2 := hρ2'.mono s4c
            have hA : Lsts [D] H4 := fun a ha => by
              have e' : a = D := by simpa using ha
              exact ⟨_, by rw [e']; exact eD4, .lst vs⟩
            refine ⟨[D], hA, ρ2, hρ2c, ?_⟩
            cases ee : e ρ2 with
            | bad => rw [ee] at whole; rw [whole] at h; exact h.elim
            | err q =>
              rw [ee] at whole
              rw [whole] at h
              obtain ⟨C, g1, g2⟩ := h
              exact ⟨C, g1, fun d0 H' s' => g2 d0 H' (s1.trans ((s2.trans (s3c.trans s4c)).trans s'))⟩
            | ok x' =>
              intro v5 H5 s5 r5 n5
              have eg : glue [D] H4 H5 D = some (.lst vs) := by rw [glue_in (by simp)]; exact eD4
              refine ⟨vs, eg, by rw [sizeLine_eq]; omega, ?_⟩
              have cg : cut [D] (upd (glue [D] H4 H5) D (.lst (vs ++ [v5]))) = H5 := by rw [cut_upd_in (by simp), glueCut n5]
              refine ⟨?_, vs ++ [v5], ys ++ [x'], upd_same, ?_, ?_, ?_⟩
              · rw [cg]; exact (s2.trans (s3c.trans s4c)).trans s5
              · rw [cg]; exact (dpAllMono ((s3c.trans s4c).trans s5) hvs).app (.cons r5 .nil)
              · exact next [x'] (by rw [one, if_pos rfl, ee]; rfl)
              · rw [List.length_append, List.length_singleton]; omega
    · rintro H' ⟨s, vs, ys, eD, hvs, hys, _⟩
      rw [List.take_length] at hys
      rw [hys] at h
      exact h D vs H' (s1.free hD) (s1.trans s) eD hvs
theorem postCE_of {K : PySem.W.Frag} {mg : Str → Option Value} {W : WX} {it : Itr'} {t : Tgt} {c : Te} {e : Ex} {σ : L2.St} {H : Hp} {Q : VK} {ρ : Env} (h : Post K mg W σ H Q (eCompE it t c e ρ)) : PostCE K mg W σ H Q it t c e ρ := by
  unfold PostCE
  unfold eCompE at h
  cases ei : it ρ with
  | err q => rw [ei] at h; exact h
  | bad => rw [ei] at h; exact h
  | ok ds =>
    rw [ei, Res.bind_ok] at h
    by_cases hlen : ds.length < 16777216
    · rw [if_pos hlen] at h
      refine ⟨hlen, ?_⟩
      cases ec : compDE t c e (wipeD ρ t.slots) ds with
      | err q => rw [ec] at h; exact h
      | bad => rw [ec] at h; exact h.elim
      | ok xs =>
        rw [ec] at h
        exact fun D vs H' hD s eD hvs => h _ H' (s.trans cutSame) (.lst (.inl (.inl eD)) (dpAllMono cutSame hvs))
    · rw [if_neg hlen] at h
      exact h.elim
section
variable {X : Cx} {W : WX} {elt tg iter : Expr} {ifs : List Expr} {scope : Scope} {own : List (Str × Nat)} {pos : Pos} {it : Itr'} {t : Tgt} {c : Te} {e : Ex}
theorem d_compE (hc : X.calm = true) (hstk : X.stack = X.env :: X.outer) (hf : X.env.frame = some X.env.locals) (tk : Takes X W) (hN : X.N.Nodup) (hi : DI X W tg iter it) (ok : BlkOk X.N X.env.scope scope own) (hsl : own.map (·.2) = t.slots)
    (hg : ∀ (σ0 : L2.St) (s : Shared) (H : Hp) (C : Addr) (cl : List (Str × Addr)) (fp : List Addr), DG (blkX X W σ0 s H scope (compEnvC scope cl C X.env) fp) tg t)
    (ht : ∀ (σ0 : L2.St) (s : Shared) (H : Hp) (C : Addr) (cl : List (Str × Addr)) (fp : List Addr), DTs (blkX X W σ0 s H scope (compEnvC scope cl C X.env) fp) W0 ifs c)
    (he : ∀ (σ0 : L2.St) (s : Shared) (H : Hp) (C : Addr) (cl : List (Str × Addr)) (fp : List Addr), DE (blkX X W σ0 s H scope (compEnvC scope cl C X.env) fp) (WAt W σ0) elt e) (hs : ∀ x, foldedSetIterable iter X.env x = pure x := by intro _; rfl) :
    DE X W (.ListComp elt [⟨tg, iter, ifs, 0⟩] scope pos) (eCompE it t c e) :=
  peImp (pe_lcX (te := fun σ0 => tFr (tD X.K X.mg (WAt W σ0) e)) hc hstk hf tk hN hi ok hg ht (fun σ0 s H C cl fp => pe_frame (he σ0 s H C cl fp)) hs) fun σ H Q ⟨ρ, hρ, h⟩ => by rw [hsl]; exact tLc_ofE ⟨ρ, hρ, postCE_of h⟩
/-- a call in such a step -/
theorem d_callB {X0 : Cx} {σ0 : L2.St} {s : Shared} {H : Hp} {ce : PySem.Env} {fp : List Addr} {ex : Expr} {es : List Expr} {g : Ar} {p : Pos} {x : Str} {k n : Nat} {fn : List PyData → Res PyData}
    (F : Df X0.prog X0.w X0.K X0.mg X0.base x k n fn) (hr : Room k X0.A) (ha : DA (blkX X0 W σ0 s H scope ce fp) (WAt W σ0) (ex :: es) g) (hn : (ex :: es).length = n := by rfl) (hg : Gl (blkX X0 W σ0 s H scope ce fp) x := by rfl)
    (hdb : (x == ("__debug__" : Str)) = false := by decide) (he : starEach (ex :: es) ce = (false, eval ex ce) :: starEach es ce := by rfl) (hpl : (backTo pos (starEach es ce)).any (·.1) = false := by rfl) :
    DE (blkX X0 W σ0 s H scope ce fp) (WAt W σ0) (.Call (.Name x p) (ex :: es) [] pos) (eCall fn g) := by
  obtain ⟨f, fd, ps, h1, hm, hk, hb⟩ := F.ex
  refine peImp (pe_callS (X := blkX X0 W σ0 s H scope ce fp) (E := WE (WAt W σ0)) h1 hr hg hm hk hb (fun σ => passB σ) ha hdb he hpl) fun σ H Q h => ?_
  obtain ⟨ρ, hρ, h⟩ := h
  refine ⟨ρ, hρ, (PostA.bind h).imp fun vs H2 _ ⟨ds, _, hl, s2, r2, h3⟩ => ⟨hl.trans hn, ds, r2, ?_⟩⟩
  cases e2 : fn ds with
  | ok d => rw [e2] at h3; exact h3
  | err c => rw [e2] at h3; exact h3
  | bad => rw [e2] at h3; exact h3
end
end L2.DL
set_option maxHeartbeats 2000000
namespace L2.DL
open PySem PySem.Spec PyProof.Rows

/-! ### texts -/
def toStrs : List PyData → Option (List Str)
  | [] => some []
  | .str x :: r => (toStrs r).map (x :: ·)
  | _ => none
theorem toStrs_some : ∀ {ds : List PyData} {ys : List Str}, toStrs ds = some ys → ds = ys.map .str
  | [], ys, h => by cases h; rfl
  | .str x :: r, ys, h => by
    unfold toStrs at h
    cases e : toStrs r with
    | none => rw [e] at h; cases h
    | some zs =>
      rw [e] at h
      cases h
      rw [toStrs_some e]
      rfl
  | .none :: _, _, h => by simp [toStrs] at h
  | .bool _ :: _, _, h => by simp [toStrs] at h
  | .int _ :: _, _, h => by simp [toStrs] at h
  | .list _ :: _, _, h => by simp [toStrs] at h
  | .tuple _ :: _, _, h => by simp [toStrs] at h
  | .dict _ :: _, _, h => by simp [toStrs] at h
@[simp] theorem toStrs_map : ∀ ys : List Str, toStrs (ys.map PyData.str) = some ys
  | [] => rfl
  | y :: r => by
    show (toStrs (r.map PyData.str)).map (y :: ·) = _
    rw [toStrs_map r]
    rfl
theorem dp_strs {K : PySem.W.Frag} {H : Hp} : ∀ {vs : List V} {ys : List Str}, DpAll K H vs (ys.map .str) → vs = ys.map V.str
  | _, [], h => by cases h; rfl
  | _, y :: r, h => by
    cases h with
    | cons h t => rw [dp_str h, dp_strs t]; rfl
theorem of_strs {K : PySem.W.Frag} {H : Hp} : ∀ ys : List Str, DpAll K H (ys.map V.str) (ys.map .str)
  | [] => .nil
  | y :: r => .cons (.str y) (of_strs r)
def oJoin : PyData → PyData → Option PyData
  | .str a, .list ds => (toStrs ds).bind fun ys => if (ys.map (·.length)).sum + ys.length * a.length ≤ 16777216 then some (.str (Txt.join a ys)) else none
  | _, _ => none
def oSplit : PyData → PyData → Option PyData
  | .str a, .str b => if (b.length == 0) = false ∧ a.length + 2 ≤ 16777216 then some (.list ((Txt.split a b).map .str)) else none
  | _, _ => none
def oFind : PyData → PyData → Option PyData
  | .str a, .str b => some (.int (Txt.find a b))
  | _, _ => none
def oInS : PyData → PyData → Option PyData
  | .str i, .str j => some (.bool (!(Builtin.Str.occurrences j i 0 j.length 1).isEmpty))
  | _, _ => none
def oNotInS : PyData → PyData → Option PyData
  | .str i, .str j => some (.bool (!(!(Builtin.Str.occurrences j i 0 j.length 1).isEmpty)))
  | _, _ => none
def oIntS : PyData → Option PyData
  | .str a => if a.length ≤ 640 then (PySem.intText? a).map .int else none
  | _ => none
def oIxS : PyData → PyData → Option PyData
  | .str z, .int i => if z.length ≤ 16777216 then (atI z.cps.toList i).map fun c => .str ⟨#[c]⟩ else none
  | _, _ => none
def oSliceS (d : PyData) (lo hi : Option Int) : Option PyData := match d with
  | .str z => if z.length ≤ 16777216 then some (.str (cutS z lo hi)) else none
  | _ => none
def eSliceS (f : Ex) (lo hi : Pt) : Ex := fun ρ => (f ρ).bind fun x => (lo ρ).bind fun l => (hi ρ).bind fun h => Res.of (oSliceS x l h)
/-- str of a whole number, of None -/
def oStrN : PyData → Option PyData
  | .int i => if i.natAbs.log2 < 1920 then some (.str (toString i)) else none
  | .none => some (.str "None")
  | _ => none
def oRepS : PyData → PyData → Option PyData
  | .str x, .int k => if 2 ≤ k ∧ k ≤ 1000 ∧ 1 ≤ x.length ∧ x.length ≤ 1000 then some (.str ⟨(List.replicate k.toNat x.cps).foldl (· ++ ·) #[]⟩) else none
  | _, _ => none
section
variable {K : PySem.W.Frag}
theorem o2_inS : Op2 K (fun x y H Q => ∃ i j, x = .str i ∧ y = .str j ∧ Q (.bl (!(Builtin.Str.occurrences j i 0 j.length 1).isEmpty)) H) oInS := by
  intro x y dx dy d H Q rx ry e q
  cases dx with
  | str i =>
    cases dy with
    | str j => cases e; exact ⟨i, j, dp_str rx, dp_str ry, q _ H (Same.refl _) (.bl _)⟩
    | _ => cases e
  | _ => cases e
theorem o2_notInS : Op2 K (fun x y H Q => ∃ i j, x = .str i ∧ y = .str j ∧ Q (.bl (!(!(Builtin.Str.occurrences j i 0 j.length 1).isEmpty))) H) oNotInS := by
  intro x y dx dy d H Q rx ry e q
  cases dx with
  | str i =>
    cases dy with
    | str j => cases e; exact ⟨i, j, dp_str rx, dp_str ry, q _ H (Same.refl _) (.bl _)⟩
    | _ => cases e
  | _ => cases e
theorem o2_ixS : Op2 K rIxS oIxS := by
  intro x y dx dy d H Q rx ry e q
  cases dx with
  | str z =>
    cases dy with
    | int i =>
      unfold oIxS at e
      dsimp only at e
      split at e
      · rename_i hz
        cases h : atI z.cps.toList i with
        | none => rw [h] at e; cases e
        | some c =>
          rw [h] at e
          cases e
          exact ⟨z, i, c, dp_str rx, dp_int ry, by rw [sizeLine_eq]; exact hz, h, q _ H (Same.refl _) (.str _)⟩
      · cases e
    | _ => cases e
  | _ => cases e
theorem o1_intS : Op1 K (fun xs H Q => ∃ a n, xs = [.str a] ∧ PySem.intText? a = some n ∧ a.length ≤ 640 ∧ Q (.int n) H) oIntS := by
  intro x dx d H Q rx e q
  cases dx with
  | str a =>
    unfold oIntS at e
    dsimp only at e
    split at e
    · rename_i hz
      cases h : PySem.intText? a with
      | none => rw [h] at e; cases e
      | some n =>
        rw [h] at e
        cases e
        rw [dp_str rx]
        exact ⟨a, n, rfl, h, hz, q _ H (Same.refl _) (.int _)⟩
    · cases e
  | _ => cases e
theorem call_strN {X : Cx} : CallR X (.type "str") (fun xs H Q => (∃ i : Int, xs = [.int i] ∧ i.natAbs.log2 < 1920 ∧ Q (.str (toString i)) H) ∨ (xs = [.non] ∧ Q (.str "None") H)) := by
  intro pins s σ H xs us Q I r h
  rcases h with h | ⟨rfl, q⟩
  · exact call_str_int pins s σ H xs us Q I r h
  · cases r with
    | cons r1 r2 =>
      cases r2
      cases r1
      exact PySem.P.str_of_none ⟨.str _, H, I.tok _, ⟨_, rfl⟩, q⟩
theorem o1_strN : Op1 K (fun xs H Q => (∃ i : Int, xs = [.int i] ∧ i.natAbs.log2 < 1920 ∧ Q (.str (toString i)) H) ∨ (xs = [.non] ∧ Q (.str "None") H)) oStrN := by
  intro x dx d H Q rx e q
  cases dx with
  | int i =>
    unfold oStrN at e
    dsimp only at e
    split at e
    · rename_i hc
      cases e
      rw [dp_int rx]
      exact .inl ⟨i, rfl, hc, q _ H (Same.refl _) (.str _)⟩
    · cases e
  | none =>
    cases e
    rw [dp_non rx]
    exact .inr ⟨rfl, q _ H (Same.refl _) (.str _)⟩
  | _ => cases e
theorem op_repS {X : Cx} : OpR X (binaryOp .Mult) (fun x y H Q => ∃ (z : Str) (k : Int), x = .str z ∧ y = .int k ∧ 2 ≤ k ∧ k ≤ 1000 ∧ 1 ≤ z.length ∧ z.length ≤ 1000 ∧ Q (.str ⟨(List.replicate k.toNat z.cps).foldl (· ++ ·) #[]⟩) H) := by
  intro pins s σ H x y v u Q I rx ry ⟨z, k, ex, ey, k1, k2, z1, z2, q⟩
  subst ex ey
  obtain ⟨t, rfl⟩ := rx
  obtain ⟨t2, rfl⟩ := ry
  have hsz : ((List.replicate k.toNat z.cps).foldl (· ++ ·) #[]).size = z.length * k.toNat := by
    have : ∀ (n : Nat) (a : Array Nat), ((List.replicate n z.cps).foldl (· ++ ·) a).size = a.size + z.length * n := by
      intro n
      induction n with
      | zero => intro a; simp
      | succ n ih =>
        intro a
        rw [List.replicate_succ, List.foldl_cons, ih, Array.size_append, Nat.mul_succ]
        show a.size + z.length + _ = _
        omega
    rw [this]
    simp
  have hm : z.length * k.toNat ≤ 1000 * 1000 := Nat.mul_le_mul z2 (by omega)
  have hone : (k == 1 || z.length == 0) = false := by
    have h1 : ¬ k = 1 := by omega
    have h2 : ¬ z.length = 0 := by omega
    simp [h1, h2]
  refine PySem.P.mul_str (by
      have h1 : ¬ k < -(2 ^ 63 : Int) := by omega
      have h2 : ¬ k ≥ 2 ^ 63 := by omega
      rw [decide_eq_false h1, decide_eq_false h2]; rfl) (fun _ _ => ?_) (fun _ _ => ?_) ?_
  · have h1 : (2 ^ 63 - 1) / 1000 ≤ ((2 : Int) ^ 63 - 1) / k := by
      rw [Int.le_ediv_iff_mul_le (by omega)]
      have : ((2 : Int) ^ 63 - 1) / 1000 * k ≤ ((2 : Int) ^ 63 - 1) / 1000 * 1000 := Int.mul_le_mul_of_nonneg_left k2 (by decide)
      exact Int.le_trans this (by decide)
    have h2 : (z.length : Int) ≤ (2 ^ 63 - 1) / 1000 := Int.le_trans (by omega : (z.length : Int) ≤ 1000) (by decide)
    omega
  · unfold Builtin.Str.tooLong
    exact decide_eq_false (by rw [sizeLine_eq]; omega)
  · rw [if_neg (by omega), hone, if_neg Bool.false_ne_true]
    refine ⟨?_, ?_⟩
    · show Array.size _ ≤ sizeLine
      rw [hsz, sizeLine_eq]
      omega
    · exact ⟨.str _, H, I.tok _, ⟨_, rfl⟩, q⟩
theorem o2_repS : Op2 K (fun x y H Q => ∃ (z : Str) (k : Int), x = .str z ∧ y = .int k ∧ 2 ≤ k ∧ k ≤ 1000 ∧ 1 ≤ z.length ∧ z.length ≤ 1000 ∧ Q (.str ⟨(List.replicate k.toNat z.cps).foldl (· ++ ·) #[]⟩) H) oRepS := by
  intro x y dx dy d H Q rx ry e q
  cases dx with
  | str z =>
    cases dy with
    | int k =>
      unfold oRepS at e
      dsimp only at e
      split at e
      · rename_i hc
        cases e
        exact ⟨z, k, dp_str rx, dp_int ry, hc.1, hc.2.1, hc.2.2.1, hc.2.2.2, q _ H (Same.refl _) (.str _)⟩
      · cases e
    | _ => cases e
  | _ => cases e
end
section
variable {X : Cx} {W : WX} {a b : Expr} {fa fb : Ex} {lo hi : Option Expr} {fl fh : Pt} {p p2 pa pos : Pos} {tg : Expr}
theorem d_inS (ha : DE X W a fa) (hb : DE X W b fb) (hm : behindInMarks .In b = false := by with_unfolding_all rfl) : DE X W (.Compare a [.In] [b] pos) (eOp oInS fa fb) := d_cmp op_in_str o2_inS ha hb hm
theorem d_notInS (ha : DE X W a fa) (hb : DE X W b fb) (hm : behindInMarks .NotIn b = false := by with_unfolding_all rfl) : DE X W (.Compare a [.NotIn] [b] pos) (eOp oNotInS fa fb) := d_cmp op_notIn_str o2_notInS ha hb hm
theorem t_inS (ha : DE X W a fa) (hb : DE X W b fb) (hm : behindInMarks .In b = false := by with_unfolding_all rfl) : DT X W (.Compare a [.In] [b] pos) (eB (eOp oInS fa fb)) := dt_cmp op_in_str o2_inS ha hb hm
theorem t_notInS (ha : DE X W a fa) (hb : DE X W b fb) (hm : behindInMarks .NotIn b = false := by with_unfolding_all rfl) : DT X W (.Compare a [.NotIn] [b] pos) (eB (eOp oNotInS fa fb)) := dt_cmp op_notIn_str o2_notInS ha hb hm
theorem d_ixS (ha : DE X W a fa) (hb : DE X W b fb) (hs : PlainIx b := by exact fun _ _ => rfl) : DE X W (.Subscript a b pos) (eOp oIxS fa fb) := peImp (pe_ix ix_str ha hb hs) fun _ _ _ h => tOp_of o2_ixS h
theorem d_repS (ha : DE X W a fa) (hb : DE X W b fb) : DE X W (.BinOp a .Mult b pos) (eOp oRepS fa fb) := d_op op_repS o2_repS ha hb
theorem d_intS (hm : X.mg "int" = none) (ha : DE X W a fa) (hg : Gl X "int" := by rfl) (hs : starEach [a] X.env = (false, eval a X.env) :: starEach [] X.env := by rfl) (hpl : (backTo pos (starEach [] X.env)).any (·.1) = false := by rfl) : DE X W (.Call (.Name "int" p) [a] [] pos) (eCall1 oIntS fa) := d_t1 call_int_str o1_intS hm ha hg (hs := hs) (hpl := hpl)
theorem d_strN (hm : X.mg "str" = none) (ha : DE X W a fa) (hg : Gl X "str" := by rfl) (hs : starEach [a] X.env = (false, eval a X.env) :: starEach [] X.env := by rfl) (hpl : (backTo pos (starEach [] X.env)).any (·.1) = false := by rfl) : DE X W (.Call (.Name "str" p) [a] [] pos) (eCall1 oStrN fa) := d_t1 call_strN o1_strN hm ha hg (hs := hs) (hpl := hpl)
theorem d_sliceS (ha : DE X W a fa) (hl : DO X W lo fl) (hh : DO X W hi fh) : DE X W (.Subscript a (.Slice lo hi none p2) pos) (eSliceS fa fl fh) := by
  refine peImp (pe_slice sl_str ha hl hh) fun σ H Q ⟨ρ, hρ, h⟩ => ⟨ρ, hρ, (Post.bind h).imp fun v H1 _ ⟨d, _, s1, rx, h1⟩ => ⟨ρ, hρ.mono s1, (PostO.bind h1).imp fun l H2 _ ⟨_, s2, h2⟩ => ⟨ρ, (hρ.mono s1).mono s2, (PostO.bind h2).imp fun u H3 _ ⟨_, s3, h3⟩ => ?_⟩⟩⟩
  cases d with
  | str z =>
    have h3 : Post X.K X.mg W σ H3 Q (Res.of (if z.length ≤ 16777216 then some (.str (cutS z l u)) else none)) := h3
    by_cases hz : z.length ≤ 16777216
    · rw [if_pos hz] at h3
      exact ⟨z, dp_str rx, by rw [sizeLine_eq]; exact hz, h3 _ H3 (Same.refl _) (.str _)⟩
    · rw [if_neg hz] at h3
      exact h3.elim
  | _ => exact h3.elim
/-- a method of a text -/
def strO (x : PyData) : Res PyData := match x with
  | .str z => .ok (.str z)
  | _ => .bad
@[simp] theorem strO_str (z : Str) : strO (.str z) = .ok (.str z) := rfl
def eM (op : PyData → PyData → Option PyData) (f g : Ex) : Ex := fun ρ => (f ρ).bind fun x => (strO x).bind fun x => (g ρ).bind fun y => Res.of (op x y)
@[simp] theorem eM_ap (op : PyData → PyData → Option PyData) (f g : Ex) (ρ : Env) : eM op f g ρ = (f ρ).bind fun x => (strO x).bind fun x => (g ρ).bind fun y => Res.of (op x y) := rfl
@[simp] theorem eSliceS_ap (f : Ex) (lo hi : Pt) (ρ : Env) : eSliceS f lo hi ρ = (f ρ).bind fun x => (lo ρ).bind fun l => (hi ρ).bind fun h => Res.of (oSliceS x l h) := rfl
/-- what a method's run asks, of data -/
def MtD (K : PySem.W.Frag) (r : V → List V → Hp → VK → Prop) (op : PyData → PyData → Option PyData) : Prop := ∀ (z : Str) (y : V) (dy d : PyData) (H : Hp) (Q : VK), Dp K H y dy → op (.str z) dy = some d → (∀ v H', Same H H' → Dp K H' v d → Q v H') → r (.str z) [y] H Q
theorem d_mt {name : Str} {id : String} {r : V → List V → Hp → VK → Prop} {op : PyData → PyData → Option PyData} (slot : Slot "str" name id) (hty : typeOf (.builtin id) = pure (.type "method_descriptor")) (hm : MtR X id r) (hd : MtD X.K r op) (ha : DE X W a fa) (hb : DE X W b fb)
    (hbase : attributeBase a name X.env (eval a X.env) = eval a X.env)
    (hfew : ((backTo pos (starEach [b] X.env)).all (fun x => !x.1) && (backToKw pos (keywordEach [] X.env)).all (fun x => x.1.isSome)
      && decide (([b] : List Expr).length + ([] : List Keyword).length + (if ([] : List Keyword).isEmpty then 0 else 1) < 30)) = true)
    (hline : (pa.endLine == pos.line) = true) (hs : starEach [b] X.env = (false, eval b X.env) :: starEach [] X.env) (hplain : (backTo pos (starEach [] X.env)).any (·.1) = false) :
    DE X W (.Call (.Attribute a name pa) [b] [] pos) (eM op fa fb) := by
  refine peImp (pe_bm PySem.F.plainAttrs_str slot hty hm ha (pa_cons hb pa_nil hs) hbase hfew hline hs hplain) fun σ H Q ⟨ρ, hρ, h⟩ => ⟨ρ, hρ, (Post.bind h).imp fun v H1 _ ⟨dx, _, s1, rx, h1⟩ => ?_⟩
  cases dx with
  | str z =>
    rw [dp_str rx]
    have h1 : Post X.K X.mg W σ H1 Q ((fb ρ).bind fun y => Res.of (op (.str z) y)) := h1
    refine ⟨rfl, ρ, hρ.mono s1, (Post.bind h1).imp fun u H2 _ ⟨dy, _, s2, ry, h2⟩ => ?_⟩
    cases e : op (.str z) dy with
    | none => rw [e] at h2; exact h2.elim
    | some d =>
      rw [e] at h2
      exact hd z u dy d H2 Q ry e h2
  | _ => exact h1.elim
theorem md_join {K : PySem.W.Frag} : MtD K (fun x xs H Q => ∃ a p, ∃ ys : List Str, x = .str a ∧ xs = [.ref p] ∧ (SqL K H p (ys.map V.str) ∨ SqT K H p (ys.map V.str)) ∧ (ys.map (·.length)).sum + ys.length * a.length ≤ 16777216 ∧ Q (.str (Txt.join a ys)) H) oJoin := by
  intro z y dy d H Q ry e q
  cases dy with
  | list ds =>
    have e : ((toStrs ds).bind fun ys => if (ys.map (·.length)).sum + ys.length * z.length ≤ 16777216 then some (PyData.str (Txt.join z ys)) else none) = some d := e
    cases e1 : toStrs ds with
    | none => rw [e1] at e; cases e
    | some ys =>
      rw [e1, Option.bind_some] at e
      split at e
      · rename_i hc
        cases e
        obtain ⟨p, vs, rfl, hsq, hv⟩ := dp_lst ry
        rw [toStrs_some e1] at hv
        rw [dp_strs hv] at hsq
        exact ⟨z, p, ys, rfl, rfl, .inl hsq, hc, q _ H (Same.refl _) (.str _)⟩
      · cases e
  | _ => cases e
theorem md_split {K : PySem.W.Frag} : MtD K (fun x xs H Q => ∃ a b, x = .str a ∧ xs = [.str b] ∧ (b.length == 0) = false ∧ a.length + 2 ≤ sizeLine ∧ rNewStrs (Txt.split a b) H Q) oSplit := by
  intro z y dy d H Q ry e q
  cases dy with
  | str b =>
    unfold oSplit at e
    dsimp only at e
    split at e
    · rename_i hc
      cases e
      rw [dp_str ry]
      exact ⟨z, b, rfl, rfl, hc.1, by rw [sizeLine_eq]; exact hc.2, fun p hp => q _ _ (sameUpd hp) (.lst (.inl (.inl upd_same)) (of_strs _))⟩
    · cases e
  | _ => cases e
theorem md_find {K : PySem.W.Frag} : MtD K (fun x xs H Q => ∃ a b, x = .str a ∧ xs = [.str b] ∧ Q (.int (Txt.find a b)) H) oFind := by
  intro z y dy d H Q ry e q
  cases dy with
  | str b =>
    cases e
    rw [dp_str ry]
    exact ⟨z, b, rfl, rfl, q _ H (Same.refl _) (.int _)⟩
  | _ => cases e
theorem d_join (ha : DE X W a fa) (hb : DE X W b fb) (hbase : attributeBase a "join" X.env (eval a X.env) = eval a X.env := by rfl)
    (hfew : ((backTo pos (starEach [b] X.env)).all (fun x => !x.1) && (backToKw pos (keywordEach [] X.env)).all (fun x => x.1.isSome)
      && decide (([b] : List Expr).length + ([] : List Keyword).length + (if ([] : List Keyword).isEmpty then 0 else 1) < 30)) = true := by rfl)
    (hline : (pa.endLine == pos.line) = true := by rfl) (hs : starEach [b] X.env = (false, eval b X.env) :: starEach [] X.env := by rfl) (hplain : (backTo pos (starEach [] X.env)).any (·.1) = false := by rfl) :
    DE X W (.Call (.Attribute a "join" pa) [b] [] pos) (eM oJoin fa fb) := d_mt PySem.F.slot_str_join PySem.F.type_str_join mt_join md_join ha hb hbase hfew hline hs hplain
theorem d_split (ha : DE X W a fa) (hb : DE X W b fb) (hbase : attributeBase a "split" X.env (eval a X.env) = eval a X.env := by rfl)
    (hfew : ((backTo pos (starEach [b] X.env)).all (fun x => !x.1) && (backToKw pos (keywordEach [] X.env)).all (fun x => x.1.isSome)
      && decide (([b] : List Expr).length + ([] : List Keyword).length + (if ([] : List Keyword).isEmpty then 0 else 1) < 30)) = true := by rfl)
    (hline : (pa.endLine == pos.line) = true := by rfl) (hs : starEach [b] X.env = (false, eval b X.env) :: starEach [] X.env := by rfl) (hplain : (backTo pos (starEach [] X.env)).any (·.1) = false := by rfl) :
    DE X W (.Call (.Attribute a "split" pa) [b] [] pos) (eM oSplit fa fb) := d_mt PySem.F.slot_str_split PySem.F.type_str_split mt_split md_split ha hb hbase hfew hline hs hplain
theorem d_find (ha : DE X W a fa) (hb : DE X W b fb) (hbase : attributeBase a "find" X.env (eval a X.env) = eval a X.env := by rfl)
    (hfew : ((backTo pos (starEach [b] X.env)).all (fun x => !x.1) && (backToKw pos (keywordEach [] X.env)).all (fun x => x.1.isSome)
      && decide (([b] : List Expr).length + ([] : List Keyword).length + (if ([] : List Keyword).isEmpty then 0 else 1) < 30)) = true := by rfl)
    (hline : (pa.endLine == pos.line) = true := by rfl) (hs : starEach [b] X.env = (false, eval b X.env) :: starEach [] X.env := by rfl) (hplain : (backTo pos (starEach [] X.env)).any (·.1) = false := by rfl) :
    DE X W (.Call (.Attribute a "find" pa) [b] [] pos) (eM oFind fa fb) := d_mt PySem.F.slot_str_find PySem.F.type_str_find mt_find md_find ha hb hbase hfew hline hs hplain
/-- the signs of a text -/
def itStr (f : Ex) : Itr' := fun ρ => (f ρ).bind fun x => match x with
  | .str z => .ok (z.cps.toList.map fun c => .str ⟨#[c]⟩)
  | _ => .bad
theorem walkS {K : PySem.W.Frag} {H : Hp} (z : Str) : WalkD K (Its z) H (z.cps.toList.map fun c => .str ⟨#[c]⟩) :=
  .of walk_str (by simp) (fun _ _ => trivial) fun i H1 x H' hi s ⟨e, c, hc, hx⟩ => by
    refine ⟨.str ⟨#[c]⟩, ?_, .inl ⟨e, by rw [hx]; exact .str _⟩⟩
    rw [List.getElem?_map, Array.getElem?_toList, hc]
    rfl
theorem i_str (h : DE X W a fa) : DI X W tg a (itStr fa) := by
  refine piImp (pi_str h) fun σ H Q ⟨ρ, hρ, h⟩ => ⟨ρ, hρ, (Post.bindI h).imp fun v H1 _ ⟨d, _, s1, rx, h1⟩ => ?_⟩
  cases d with
  | str z => exact ⟨z, dp_str rx, h1 _ H1 (Same.refl _) (walkS z)⟩
  | _ => exact h1.elim
end
end L2.DL
set_option maxHeartbeats 1000000
namespace L2.DL
open PySem PySem.Spec PyProof.Rows

/-! ### tests of a caught exception -/
abbrev HT (X : Cx) (i : Nat) (a : Addr) (e : Expr) (b : Bool) : Prop := PT X e (fun σ H Q => σ[i]? = some (some (.ref a)) ∧ Q b H)
abbrev HW (X : Cx) (i : Nat) (a : Addr) (e : Expr) (b : Bool) : Prop := PW X e (fun σ H Q => σ[i]? = some (some (.ref a)) ∧ Q b H)
section
variable {X : Cx} {i : Nat} {a : Addr} {e f : Expr} {rest : List Expr} {b : Bool} {pos : Pos}
theorem ht_val (h : HE X i a e (.bl b)) (he : ∀ whole, isTrue e X.env whole = (do let v ← whole; standAt e.pos; holding [v] (truthy v)) := by intro _; rfl) : HT X i a e b :=
  ptImp (pt_val h he) fun σ H Q ⟨h1, h2⟩ => ⟨h1, b, rfl, h2⟩
theorem ht_not (h : HT X i a e b) : HT X i a (.UnaryOp .Not e pos) (!b) := ptImp (pt_not h) fun σ H Q ⟨h1, h2⟩ => ⟨h1, h2⟩
theorem ht_notT (h : HT X i a e true) : HT X i a (.UnaryOp .Not e pos) false := ht_not h
theorem hw_or1 (h : HT X i a e b) : HW X i a (.BoolOp .Or [e] pos) b := pw_or1 h
theorem hw_or (h : HT X i a e false) (hb : HW X i a (.BoolOp .Or (f :: rest) pos) b) : HW X i a (.BoolOp .Or (e :: f :: rest) pos) b := pwImp (pw_or h hb) fun σ H Q ⟨h1, h2⟩ => ⟨h1, iteF ⟨h1, h2⟩⟩
theorem hwt (h : HW X i a e b) : HT X i a e b := PW.pt h
/-- if test: .., the test false -/
theorem h_ifNot {body : List Stmt} {t : TS} (h : HT X i a e false) (hb : PSs X body t) : PSs X [.If e body [] pos] (fun D σ H => σ[i]? = some (some (.ref a)) ∧ D.nx σ H) :=
  pssImp (pss_one (ps_if h hb pss_nil)) fun D σ H ⟨h1, h2⟩ => ⟨h1, iteF h2⟩
end
/-- the body; where it raises c: the suite does nothing -/
def tryNxS (c : Str) (i : Nat) (f : Sf) : Sf := fun ρ => match f ρ with
  | .err c' ρ' => if c' = c ∧ i < ρ'.length then .nx (ρ'.set i none) else .bad
  | r => r
theorem s_tryNx {X : Cx} {W : WX} {Lb : List Nat} {C : Addr} {x n : Str} {i : Nat} {body suite : List Stmt} {b₀ : Stmt} {np pos pos' : Pos} {fb : Sf} (T : ExcI X.K X.mg x C)
    (hs : X.stack = X.env :: X.outer) (hf : X.env.frame = some X.env.locals) (hN : X.N.Nodup) (tk : Takes X W)
    (hb : ∀ (W' : WX) (pn : List (Addr × Obj)) (xe : Value → Shared → Prop), Takes (X.tr pn xe) W' → PassesOwn (model X.prog X.w) X.A X.env xe → DSs (X.tr pn xe) W' [] [] Lb body fb)
    (hsu : ∀ (a : Addr) (oe : Obj) (pn : List (Addr × Obj)), Zc (.ref C) none oe → (∃ vs, oe.data = .fields vs) → PSs (X.suite a ((a, oe) :: pn)) (b₀ :: suite) (fun D σ H => σ[i]? = some (some (.ref a)) ∧ D.nx σ H))
    (hi : X.N[i]? = some n := by rfl) (hln : X.env.kindOf n = some .local := by rfl) (hg : Gl X x := by rfl) (hdb : (x == ("__debug__" : Str)) = false := by decide) :
    DS X W [] [] Lb (.Try body [.ExceptHandler (some (.Name x np)) (some n) (b₀ :: suite) pos'] [] [] pos) (tryNxS x i fb) := by
  refine psImp (ps_try_as (tb := fun W' => tS X.K X.mg W' [] [] Lb fb) (ts := fun a cls dd D σ H => (cls = .ref C ∧ dd = none) ∧ σ[i]? = some (some (.ref a)) ∧ D.nx σ H) hs hf hN hi hln ⟨hg, hdb, .inl T.mg⟩ tk hb fun a oe cls dd pn hz hvs => ?_) fun D σ H ⟨G, o, ρ, hm, R, q⟩ => ⟨G, o, ρ, hm, R, ?_⟩
  · refine ⟨fun pins s σ H D I ⟨⟨e1, e2⟩, z⟩ => ?_⟩
    subst e1 e2
    exact (hsu a oe pn hz hvs).run pins s σ H D I z
  · unfold tryNxS at q
    cases e : fb ρ with
    | err c' ρ' =>
      rw [e] at q
      dsimp only at q
      split at q
      · rename_i hc
        obtain ⟨rfl, hil⟩ := hc
        refine ⟨C, T.mg, fun σ' H' d0 s hρ => ?_⟩
        obtain ⟨d0, rfl⟩ := d0
        have hl' : i < σ'.length := by rw [← hρ.len]; exact hil
        refine ⟨true, T.exm, fun _ a' _ => ⟨⟨rfl, rfl⟩, by simp [hl'], ?_⟩, fun z => by cases z⟩
        have ec : ∀ H' : Hp, cut (AD []) H' = H' := fun H' => by
          funext b
          exact cut_out (by simp)
        refine q _ H' [] rfl ⟨by rw [List.length_set, List.length_set, List.length_set]; exact hρ.len, fun j d e1 _ => ?_, fun i a h => (by cases h), .nil, .nil, by rw [ec]; exact s⟩
        rw [ec]
        by_cases hij : i = j
        · subst hij
          rw [List.getElem?_set_self hil] at e1
          cases e1
        · rw [List.getElem?_set_ne hij] at e1
          obtain ⟨v, h1, h2⟩ := hρ.get j d e1
          exact ⟨v, by rw [List.getElem?_set_ne hij, List.getElem?_set_ne hij]; exact h1, h2⟩
      · exact q.elim
    | nx ρ' => rw [e] at q; exact q
    | brk ρ' => rw [e] at q; exact q
    | cnt ρ' => rw [e] at q; exact q
    | ret d' => rw [e] at q; exact q
    | bad => rw [e] at q; exact q.elim
/-- the body; where it raises c: a constant is handed back -/
def tryRetO (c : Str) (d : PyData) (f : Sf) : Sf := fun ρ => match f ρ with
  | .err c' _ => if c' = c then .ret d else .bad
  | r => r
theorem s_tryRetO {X : Cx} {W : WX} {M M' Lb : List Nat} {C : Addr} {x : Str} {body suite : List Stmt} {b₀ : Stmt} {np pos pos' : Pos} {d : PyData} {v : V} {fb : Sf} (T : ExcI X.K X.mg x C) (hv : ∀ H, Dp X.K H v d)
    (hs : X.stack = X.env :: X.outer) (hf : X.env.frame = some X.env.locals) (tk : Takes X W)
    (hb : ∀ (W' : WX) (pn : List (Addr × Obj)) (xe : Value → Shared → Prop), Takes (X.tr pn xe) W' → PassesOwn (model X.prog X.w) X.A X.env xe → DSs (X.tr pn xe) W' M M' Lb body fb)
    (hsu : ∀ (a : Addr) (oe : Obj) (pn : List (Addr × Obj)), Zc (.ref C) none oe → (∃ vs, oe.data = .fields vs) → PSs (X.suite a ((a, oe) :: pn)) (b₀ :: suite) (fun D σ H => D.rt v H))
    (hg : Gl X x := by rfl) (hdb : (x == ("__debug__" : Str)) = false := by decide) :
    DS X W M M' Lb (.Try body [.ExceptHandler (some (.Name x np)) none (b₀ :: suite) pos'] [] [] pos) (tryRetO x d fb) := by
  refine psImp (ps_try_only (tb := fun W' => tS X.K X.mg W' M M' Lb fb) (ts := fun a cls dd D σ H => (cls = .ref C ∧ dd = none) ∧ D.rt v H) hs hf ⟨hg, hdb, .inl T.mg⟩ tk hb fun a oe cls dd pn hz hvs => ?_) fun D σ H ⟨G, o, ρ, hm, R, q⟩ => ⟨G, o, ρ, hm, R, ?_⟩
  · refine ⟨fun pins s σ H D I ⟨⟨e1, e2⟩, z⟩ => ?_⟩
    subst e1 e2
    exact (hsu a oe pn hz hvs).run pins s σ H D I z
  · unfold tryRetO at q
    cases e : fb ρ with
    | err c' ρ' =>
      rw [e] at q
      dsimp only at q
      split at q
      · rename_i hc
        subst hc
        refine ⟨C, T.mg, fun σ' H' d0 s hρ => ?_⟩
        obtain ⟨d0, rfl⟩ := d0
        exact ⟨true, T.exm, fun _ a' _ => ⟨⟨rfl, rfl⟩, q v H' s (hv H')⟩, fun z => by cases z⟩
      · exact q.elim
    | nx ρ' => rw [e] at q; exact q
    | brk ρ' => rw [e] at q; exact q
    | cnt ρ' => rw [e] at q; exact q
    | ret d' => rw [e] at q; exact q
    | bad => rw [e] at q; exact q.elim
theorem su_retN {X : Cx} {pos p2 : Pos} {j : Nat} : PSs X [.Return (some (.Constant .none j p2)) pos] (fun D σ H => D.rt .non H) := pssImp (pss_one (ps_ret pe_non)) fun D σ H q => q
end L2.DL
set_option maxHeartbeats 2000000
namespace L2.DL
open PySem PySem.Spec PyProof.Rows
noncomputable def m_part_text : List PyData → Res PyData := runD 1 (seqS (ifS (eB (eOp oIs (eOp oIx (eVar 0) (eC (.int 1))) (eC .none))) (retS (eCall1 oStrN (eOp oIx (eVar 0) (eC (.int 0))))) nxS) (retS (eOp oCatS (eOp oCatS (eCall1 oStrN (eOp oIx (eVar 0) (eC (.int 0)))) (eC (.str "*"))) (eCall1 oStrN (eOp oIx (eVar 0) (eC (.int 1)))))))
noncomputable def m_text_of : List PyData → Res PyData := runD 8 (seqS (newS [] 1 (nLst aNil)) (seqS (forS [1] (itSq (eVar 0)) (.tup [2, 3, 4, 5]) (appS [1] 1 (fun ρ => (eM oJoin (eC (.str " ")) (eOp oCatL (eLst (aCons (eCall1 oStrN (eVar 2)) (aCons (eCall1 oStrN (eVar 3)) (aCons (eCall1 oStrN (eVar 4)) aNil)))) (eComp (itSq (eVar 5)) (.one 7) teYes (eCall m_part_text (aCons (eVar 7) aNil))))) (wipeD ρ [1])))) (retS (eM oJoin (eC (.str "")) (eComp (itSq (eVar 1)) (.one 6) teYes (eOp oCatS (eVar 6) (eC (.str "\n"))))))))
noncomputable def m_shown : List PyData → Res PyData := runD 1 (retS (eCall m_text_of (aCons (eCall m_checked (aCons (eVar 0) aNil)) aNil)))
noncomputable def m_number_of : List PyData → Res PyData := runD 2 (seqS (ifS (teOr (teNot (eChain oLe oLe (eC (.int 1)) (eCall1 oLen (eVar 0)) (eC (.int 2)))) (teNot (eB (eCall1 oAll (eComp (itStr (eVar 0)) (.one 1) teYes (eOp oInS (eVar 1) (eC (.str "0123456789")))))))) (raiseS "NoText") nxS) (retS (eCall1 oIntS (eVar 0))))
noncomputable def m_part_of : List PyData → Res PyData := runD 2 (seqS (setS [] 1 (eM oSplit (eVar 0) (eC (.str "*")))) (seqS (ifS (eB (eOp oGt (eCall1 oLen (eVar 1)) (eC (.int 2)))) (raiseS "NoText") nxS) (seqS (ifS (eB (eOp oEq (eCall1 oLen (eVar 1)) (eC (.int 1)))) (retS (eTup (aCons (eCall m_number_of (aCons (eOp oIx (eVar 1) (eC (.int 0))) aNil)) (aCons (eC .none) aNil)))) nxS) (retS (eTup (aCons (eCall m_number_of (aCons (eOp oIx (eVar 1) (eC (.int 0))) aNil)) (aCons (eCall m_number_of (aCons (eOp oIx (eVar 1) (eC (.int 1))) aNil)) aNil)))))))
noncomputable def m_errand_of : List PyData → Res PyData := runD 3 (seqS (setS [] 1 (eM oSplit (eVar 0) (eC (.str " ")))) (seqS (ifS (eB (eOp oLt (eCall1 oLen (eVar 1)) (eC (.int 4)))) (raiseS "NoText") nxS) (retS (eOp oCatT (eCall1 oTuple (eCompE (itSq (eSlice (eVar 1) ptNo (ptSome (eC (.int 3))))) (.one 2) teYes (eCall m_number_of (aCons (eVar 2) aNil)))) (eTup (aCons (eCall1 oTuple (eCompE (itSq (eSlice (eVar 1) (ptSome (eC (.int 3))) ptNo)) (.one 2) teYes (eCall m_part_of (aCons (eVar 2) aNil)))) aNil))))))
noncomputable def m_read : List PyData → Res PyData := runD 4 (seqS (ifS (teNot (eB (eCall1 isaStr (eVar 0)))) (raiseS "NoText") nxS) (seqS (setS [] 1 (eM oSplit (eVar 0) (eC (.str "\n")))) (seqS (ifS (eB (eOp oNe (eOp oIx (eVar 1) (eUn oNeg (eC (.int 1)))) (eC (.str "")))) (raiseS "NoText") nxS) (seqS (setS [] 2 (eCall1 oTuple (eCompE (itSq (eSlice (eVar 1) ptNo (ptSome (eUn oNeg (eC (.int 1)))))) (.one 3) teYes (eCall m_errand_of (aCons (eVar 3) aNil))))) (seqS (ifS (teOr (teNot (eB (eCall m_are_errands (aCons (eVar 2) aNil)))) (eB (eOp oNe (eCall m_text_of (aCons (eVar 2) aNil)) (eVar 0)))) (raiseS "NoText") nxS) (retS (eVar 2)))))))
noncomputable def m__law_spoilt_text : List PyData → Res PyData := runD 6 (seqS (setS [] 3 (eOp oMod (eVar 1) (eOp oAdd (eCall1 oLen (eVar 0)) (eC (.int 1))))) (seqS (setS [] 4 (eOp oIxS (eC (.str " *\n0123456789-+.aN 1*0")) (eOp oMod (eOp oDiv (eVar 1) (eC (.int 1000))) (eC (.int 22))))) (seqS (setS [] 5 (eOp oMod (eOp oDiv (eVar 1) (eC (.int 40000))) (eC (.int 6)))) (seqS (ifS (eB (eOp oEq (eVar 5) (eC (.int 0)))) (retS (eOp oCatS (eOp oCatS (eSliceS (eVar 0) ptNo (ptSome (eVar 3))) (eVar 4)) (eSliceS (eVar 0) (ptSome (eVar 3)) ptNo))) nxS) (seqS (ifS (eB (eOp oEq (eVar 5) (eC (.int 1)))) (retS (eOp oCatS (eSliceS (eVar 0) ptNo (ptSome (eVar 3))) (eSliceS (eVar 0) (ptSome (eOp oAdd (eVar 3) (eC (.int 1)))) ptNo))) nxS) (seqS (ifS (eB (eOp oEq (eVar 5) (eC (.int 2)))) (retS (eOp oCatS (eOp oCatS (eSliceS (eVar 0) ptNo (ptSome (eVar 3))) (eVar 4)) (eSliceS (eVar 0) (ptSome (eOp oAdd (eVar 3) (eC (.int 1)))) ptNo))) nxS) (seqS (ifS (eB (eOp oEq (eVar 5) (eC (.int 3)))) (retS (eOp oCatS (eSliceS (eVar 0) ptNo (ptSome (eVar 3))) (eSliceS (eVar 0) (ptSome (eOp oAdd (eVar 3) (eOp oMod (eOp oDiv (eVar 1) (eC (.int 7))) (eC (.int 9))))) ptNo))) nxS) (seqS (ifS (eB (eOp oEq (eVar 5) (eC (.int 4)))) (retS (eOp oIx (eLst (aCons (eOp oCatS (eVar 0) (eVar 0)) (aCons (eOp oCatS (eSliceS (eVar 0) (ptSome (eVar 3)) ptNo) (eSliceS (eVar 0) ptNo (ptSome (eVar 3)))) (aCons (eOp oCatS (eC (.str " ")) (eVar 0)) (aCons (eOp oCatS (eVar 0) (eC (.str " "))) aNil))))) (eOp oMod (eVar 1) (eC (.int 4))))) nxS) (retS (eOp oIx (eOp oCatL (eVar 2) (eLst (aCons (eC .none) (aCons (eC (.int 5)) (aCons (eLst (aCons (eVar 0) aNil)) (aCons (eC (.str "")) aNil)))))) (eOp oMod (eVar 1) (eOp oAdd (eCall1 oLen (eVar 2)) (eC (.int 4))))))))))))))
noncomputable def m__law_text : List PyData → Res PyData := runD 9 (seqS (setS [] 1 (eC (.str ""))) (seqS (forS [] (itSq (eVar 0)) (.tup [2, 3, 4, 5]) (seqS (newS [] 6 (nLst (aCons (eCall1 oStrN (eVar 2)) (aCons (eCall1 oStrN (eVar 3)) (aCons (eCall1 oStrN (eVar 4)) aNil))))) (seqS (forS [6] (itSq (eVar 5)) (.tup [7, 8]) (appS [6] 6 (fun ρ => (eOp oIx (eLst (aCons (eOp oCatS (eOp oCatS (eCall1 oStrN (eVar 7)) (eC (.str "*"))) (eCall1 oStrN (eVar 8))) (aCons (eCall1 oStrN (eVar 7)) aNil))) (eCall1 oInt (eOp oIs (eVar 8) (eC .none)))) (wipeD ρ [6])))) (seqS (setS [6] 1 (fun ρ => ((eOp oCatS (eOp oCatS (eVar 1) (eM oJoin (eC (.str " ")) (eVar 6))) (eC (.str "\n"))) ρ).bind scal)) nxS)))) (retS (eVar 1))))
noncomputable def m__law_number : List PyData → Res PyData := runD 2 (seqS (ifS (eB (eOp oNotIn (eVar 0) (eComp (itR1 (eC (.int 100))) (.one 1) teYes (eCall1 oStrN (eVar 1))))) (retS (eUn oNeg (eC (.int 1)))) nxS) (retS (eCall1 oIntS (eVar 0))))
noncomputable def m__law_part : List PyData → Res PyData := runD 2 (seqS (ifS (eB (eOp oNotInS (eC (.str "*")) (eVar 0))) (retS (eTup (aCons (eCall m__law_number (aCons (eVar 0) aNil)) (aCons (eC .none) aNil)))) nxS) (seqS (setS [] 1 (eM oFind (eVar 0) (eC (.str "*")))) (retS (eTup (aCons (eCall m__law_number (aCons (eSliceS (eVar 0) ptNo (ptSome (eVar 1))) aNil)) (aCons (eCall m__law_number (aCons (eSliceS (eVar 0) (ptSome (eOp oAdd (eVar 1) (eC (.int 1)))) ptNo) aNil)) aNil))))))
noncomputable def m__law_due : List PyData → Res PyData := runD 6 (seqS (ifS (teOr (teNot (eB (eCall1 isaStr (eVar 0)))) (eB (eOp oNe (eSliceS (eVar 0) (ptSome (eUn oNeg (eC (.int 1)))) ptNo) (eC (.str "\n"))))) (retS (eC .none)) nxS) (seqS (newS [] 1 (nLst aNil)) (seqS (forS [1] (itSq (eM oSplit (eSliceS (eVar 0) ptNo (ptSome (eUn oNeg (eC (.int 1))))) (eC (.str "\n")))) (.one 2) (seqS (setS [1] 3 (fun ρ => (eM oSplit (eVar 2) (eC (.str " "))) (wipeD ρ [1]))) (seqS (setS [1] 4 (fun ρ => eComp (itSq (eSlice (eVar 3) ptNo (ptSome (eC (.int 3))))) (.one 5) teYes (eCall m__law_number (aCons (eVar 5) aNil)) (wipeD ρ [1]))) (seqS (ifS (eB (eOp oLt (eCall1 oLen (eVar 3)) (eC (.int 4)))) (retS (eC .none)) nxS) (appS [1] 1 (fun ρ => (eTup (aCons (eOp oIx (eVar 4) (eC (.int 0))) (aCons (eOp oIx (eVar 4) (eC (.int 1))) (aCons (eOp oIx (eVar 4) (eC (.int 2))) (aCons (eCall1 oTuple (eComp (itSq (eSlice (eVar 3) (ptSome (eC (.int 3))) ptNo)) (.one 5) teYes (eCall m__law_part (aCons (eVar 5) aNil)))) aNil))))) (wipeD ρ [1]))))))) (seqS (tryRetO "NoErrands" .none (exprS (eCall m_checked (aCons (eCall1 oTuple (eVar 1)) aNil)))) (retS (eCall1 oTuple (eVar 1)))))))
noncomputable def m_law_k24 : List PyData → Res PyData := runD 6 (seqS (setS [] 1 (eCall m__law_errands (aCons (eVar 0) (aCons (eC (.int 2)) (aCons (eC (.int 4)) (aCons (eC (.int 28)) (aCons (eC (.bool true)) aNil))))))) (seqS (setS [] 2 (eCall m_shown (aCons (eVar 1) aNil))) (seqS (ifS (teOr (teNot (eB (eCall1 isaStr (eVar 2)))) (teOr (eB (eOp oNe (eVar 2) (eCall m__law_text (aCons (eVar 1) aNil)))) (eB (eOp oNe (eCall m_read (aCons (eVar 2) aNil)) (eVar 1))))) (retS (eC (.bool false))) nxS) (seqS (setS [] 3 (eLst (aCons (eC (.str "2 1 0 1*0\n")) (aCons (eC (.str "2 1 0 1*0*1 1\n")) (aCons (eC (.str "02 1 0 1\n")) (aCons (eC (.str "2 1 0\n")) (aCons (eOp oRepS (eC (.str "2 1 0 1\n")) (eC (.int 7))) (aCons (eC (.str "61 1 0 1\n")) (aCons (eC (.str "2 1 0 1")) aNil))))))))) (seqS (setS [] 2 (eCall m__law_spoilt_text (aCons (eVar 2) (aCons (eCall m__law_mixed (aCons (eVar 0) (aCons (eC (.int 0)) (aCons (eOp oPow (eC (.int 10)) (eC (.int 7))) aNil)))) (aCons (eVar 3) aNil))))) (seqS (setS [] 4 (eC .none)) (seqS (tryNxS "NoText" 5 (setS [] 4 (eCall m_read (aCons (eVar 2) aNil)))) (retS (eOp oEq (eVar 4) (eCall m__law_due (aCons (eVar 2) aNil)))))))))))
end L2.DL
set_option maxHeartbeats 2000000
namespace L2.DL
open PySem PySem.Spec PyProof.Rows

/-! ### errands as plain data -/
structure Er where
  every : Int
  due : Int
  late : Int
  parts : List (Int × Option Int)
  deriving DecidableEq
instance : Inhabited Er := ⟨⟨2, 1, 0, [(1, none)]⟩⟩
def encO : Option Int → PyData
  | none => .none
  | some t => .int t
def encP (p : Int × Option Int) : PyData := .tuple [.int p.1, encO p.2]
def encE (e : Er) : PyData := .tuple [.int e.every, .int e.due, .int e.late, .tuple (e.parts.map encP)]
def encEs (es : List Er) : PyData := .tuple (es.map encE)
def encN (n : Nat) : PyData := .int (n : Int)
def encR (rs : List Nat) : PyData := .tuple (rs.map encN)
structure OkP (p : Int × Option Int) : Prop where
  len : 1 ≤ p.1 ∧ p.1 ≤ 20
  tool : ∀ t, p.2 = some t → 0 ≤ t ∧ t ≤ 3
structure OkE (e : Er) : Prop where
  every : 2 ≤ e.every ∧ e.every ≤ 60
  late : 0 ≤ e.late ∧ e.late ≤ 20 ∧ e.late ≤ e.every - 1
  due : 1 ≤ e.due ∧ e.due ≤ e.every - e.late
  parts : 1 ≤ e.parts.length ∧ e.parts.length ≤ 4
  part : ∀ p ∈ e.parts, OkP p
  last : ∃ l, e.parts.getLast? = some (l, none)
structure OkEs (es : List Er) : Prop where
  len : 1 ≤ es.length ∧ es.length ≤ 6
  all : ∀ e ∈ es, OkE e
/-- the errand of a number -/
def E (es : List Er) (n : Nat) : Er := es.getD n default
theorem okDefault : OkE default := ⟨⟨by decide, by decide⟩, ⟨by decide, by decide, by decide⟩, ⟨by decide, by decide⟩, ⟨by decide, by decide⟩, fun p hp => by
  have e : p = (1, none) := by simpa [default] using hp
  subst e
  exact ⟨by decide, fun t h => by cases h⟩, ⟨1, rfl⟩⟩
theorem OkEs.at {es : List Er} (h : OkEs es) (n : Nat) : OkE (E es n) := by
  unfold E
  rw [List.getD_eq_getElem?_getD]
  cases e : es[n]? with
  | none => exact okDefault
  | some x => exact h.all x (List.mem_of_getElem? e)
theorem E_enc {es : List Er} {n : Nat} (h : n < es.length) : (es.map encE)[n]? = some (encE (E es n)) := by
  rw [List.getElem?_map, List.getElem?_eq_getElem h]
  simp [E, List.getD_eq_getElem?_getD, h]
@[simp] theorem isaTuple_encE (e : Er) : isaTuple (encE e) = some (.bool true) := rfl
@[simp] theorem isaTuple_encP (p : Int × Option Int) : isaTuple (encP p) = some (.bool true) := rfl
@[simp] theorem oLen_encE (e : Er) : oLen (encE e) = some (.int 4) := rfl
@[simp] theorem oLen_encP (p : Int × Option Int) : oLen (encP p) = some (.int 2) := rfl
@[simp] theorem oIx_encE0 (e : Er) : oIx (encE e) (.int 0) = some (.int e.every) := rfl
@[simp] theorem oIx_encE1 (e : Er) : oIx (encE e) (.int 1) = some (.int e.due) := rfl
@[simp] theorem oIx_encE2 (e : Er) : oIx (encE e) (.int 2) = some (.int e.late) := rfl
@[simp] theorem oIx_encE3 (e : Er) : oIx (encE e) (.int 3) = some (.tuple (e.parts.map encP)) := rfl
@[simp] theorem oIx_encP0 (p : Int × Option Int) : oIx (encP p) (.int 0) = some (.int p.1) := rfl
@[simp] theorem oIx_encP1 (p : Int × Option Int) : oIx (encP p) (.int 1) = some (encO p.2) := rfl
theorem oIx_encEs {es : List Er} {n : Nat} (h : n < es.length) : oIx (encEs es) (.int (n : Int)) = some (encE (E es n)) := atI_nat (E_enc h)
@[simp] theorem oLen_encEs (es : List Er) : oLen (encEs es) = some (.int (es.length : Int)) := by simp [encEs]
@[simp] theorem oLen_encR (rs : List Nat) : oLen (encR rs) = some (.int (rs.length : Int)) := by simp [encR]
theorem oIx_encR {rs : List Nat} {n r : Nat} (h : rs[n]? = some r) : oIx (encR rs) (.int (n : Int)) = some (encN r) := atI_nat (by rw [List.getElem?_map, h]; rfl)

/-! ### shapes -/
theorem depth_le {d : PyData} (n : Nat) : (h : d.depth ≤ n) → n ≤ 64 → d.canLay0 = true → SeqAt.shaped d = true := fun h hn c => by
  unfold SeqAt.shaped
  rw [c]
  simp
  omega
@[simp] theorem shaped_int (i : Int) : SeqAt.shaped (.int i) = true := by simp [SeqAt.shaped, PyData.canLay0, PyData.depth]
@[simp] theorem shaped_none : SeqAt.shaped .none = true := by simp [SeqAt.shaped, PyData.canLay0, PyData.depth]
@[simp] theorem shaped_bool (i : Bool) : SeqAt.shaped (.bool i) = true := by simp [SeqAt.shaped, PyData.canLay0, PyData.depth]
/-- data of at most n levels without a dict, texts of usual signs -/
def Lay (n : Nat) (d : PyData) : Prop := d.canLay0 = true ∧ d.depth ≤ n
theorem Lay.shaped {n : Nat} {d : PyData} (h : Lay n d) (hn : n ≤ 64 := by decide) : SeqAt.shaped d = true := depth_le n h.2 hn h.1
theorem Lay.int (n : Nat) (i : Int) : Lay n (.int i) := ⟨rfl, by simp [PyData.depth]⟩
theorem Lay.bool (n : Nat) (i : Bool) : Lay n (.bool i) := ⟨rfl, by simp [PyData.depth]⟩
theorem Lay.non (n : Nat) : Lay n .none := ⟨rfl, by simp [PyData.depth]⟩
theorem layAll {n : Nat} : ∀ {ds : List PyData}, (∀ d ∈ ds, Lay n d) → PyData.canLayAll0 ds = true ∧ PyData.depthAll ds ≤ n
  | [], _ => ⟨rfl, by simp [PyData.depthAll]⟩
  | d :: ds, h => by
    obtain ⟨h1, h2⟩ := h d List.mem_cons_self
    obtain ⟨h3, h4⟩ := layAll fun x hx => h x (List.mem_cons_of_mem _ hx)
    refine ⟨by simp [PyData.canLayAll0, h1, h3], ?_⟩
    simp only [PyData.depthAll]
    omega
theorem Lay.list {n : Nat} {ds : List PyData} (h : ∀ d ∈ ds, Lay n d) : Lay (n + 1) (.list ds) := by
  obtain ⟨h1, h2⟩ := layAll h
  exact ⟨by simpa [PyData.canLay0] using h1, by simp only [PyData.depth]; omega⟩
theorem Lay.tuple {n : Nat} {ds : List PyData} (h : ∀ d ∈ ds, Lay n d) : Lay (n + 1) (.tuple ds) := by
  obtain ⟨h1, h2⟩ := layAll h
  exact ⟨by simpa [PyData.canLay0] using h1, by simp only [PyData.depth]; omega⟩
theorem Lay.mono {m n : Nat} {d : PyData} (h : Lay m d) (hm : m ≤ n) : Lay n d := ⟨h.1, Nat.le_trans h.2 hm⟩
theorem lay_encO (n : Nat) (o : Option Int) : Lay n (encO o) := by cases o with
  | none => exact Lay.non n
  | some t => exact Lay.int n t
theorem lay_ints (n : Nat) (ns : List Int) : Lay (n + 1) (.list (ns.map .int)) := Lay.list fun d hd => by
  obtain ⟨i, _, rfl⟩ := List.mem_map.mp hd
  exact Lay.int n i
@[simp] theorem eqv_int (i j : Int) : PyData.eqv (.int i) (.int j) = (i == j) := rfl
@[simp] theorem eqv_non_int (j : Int) : PyData.eqv .none (.int j) = false := rfl
@[simp] theorem eqv_int_non (j : Int) : PyData.eqv (.int j) .none = false := rfl
@[simp] theorem eqv_bool (i j : Bool) : PyData.eqv (.bool i) (.bool j) = (i == j) := rfl
@[simp] theorem oEq_int (i j : Int) : oEq (.int i) (.int j) = some (.bool (i == j)) := by simp [oEq]
@[simp] theorem oNe_int (i j : Int) : oNe (.int i) (.int j) = some (.bool (!(i == j))) := by simp [oNe]
mutual
theorem eqv_self : ∀ (d : PyData), d.canLay0 = true → PyData.eqv d d = true
  | .none, _ => rfl
  | .bool b, _ => by simp [PyData.eqv]
  | .int i, _ => by simp [PyData.eqv]
  | .str s, _ => by simp [PyData.eqv]
  | .list xs, h => by simp only [PyData.eqv]; exact eqvAll_self xs (by simpa [PyData.canLay0] using h)
  | .tuple xs, h => by simp only [PyData.eqv]; exact eqvAll_self xs (by simpa [PyData.canLay0] using h)
  | .dict _, h => by simp [PyData.canLay0] at h
theorem eqvAll_self : ∀ (ds : List PyData), PyData.canLayAll0 ds = true → PyData.eqvAll ds ds = true
  | [], _ => rfl
  | d :: ds, h => by
    simp only [PyData.canLayAll0, Bool.and_eq_true] at h
    simp only [PyData.eqvAll, eqv_self d h.1, eqvAll_self ds h.2, Bool.and_self]
end
theorem oEq_self {n : Nat} {d : PyData} (h : Lay n d) (hn : n ≤ 64 := by decide) : oEq d d = some (.bool true) := by
  unfold oEq
  rw [if_pos ⟨h.shaped hn, h.shaped hn⟩, eqv_self d h.1]
theorem oNe_self {n : Nat} {d : PyData} (h : Lay n d) (hn : n ≤ 64 := by decide) : oNe d d = some (.bool false) := by
  unfold oNe
  rw [if_pos ⟨h.shaped hn, h.shaped hn⟩, eqv_self d h.1]
  rfl
theorem oIn_of {x : PyData} {ys : List PyData} {n : Nat} (h : Lay n x) (hy : Lay n (.list ys)) (hn : n ≤ 64 := by decide) : oIn x (.list ys) = some (.bool (ys.any fun z => PyData.eqv z x)) := by
  show (if _ then _ else _) = _
  rw [if_pos ⟨h.shaped hn, hy.shaped hn⟩]
theorem oNotIn_of {x : PyData} {ys : List PyData} {n : Nat} (h : Lay n x) (hy : Lay n (.list ys)) (hn : n ≤ 64 := by decide) : oNotIn x (.list ys) = some (.bool (!ys.any fun z => PyData.eqv z x)) := by
  show (if _ then _ else _) = _
  rw [if_pos ⟨h.shaped hn, hy.shaped hn⟩]

/-! ### the first defs -/
theorem is_whole_int (i : Int) : m_is_whole [.int i] = .ok (.bool true) := rfl
theorem between_int (i lo hi : Int) : m_between [.int i, .int lo, .int hi] = .ok (.bool (decide (lo ≤ i ∧ i ≤ hi))) := by
  simp [m_between, runD_ap, is_whole_int]
  by_cases h : lo ≤ i <;> simp [h]
theorem is_part_ok {p : Int × Option Int} (h : OkP p) : m_is_part [encP p] = .ok (.bool true) := by
  obtain ⟨h1, h2⟩ := h
  have b1 : decide (1 ≤ p.1 ∧ p.1 ≤ 20) = true := by simpa using h1
  simp [m_is_part, runD_ap, between_int, b1]
  cases e : p.2 with
  | none => simp [encO]
  | some t =>
    have := h2 t e
    simp [encO, between_int]
    omega
theorem toBools_true {α : Type} : ∀ (xs : List α), toBools (xs.map fun _ => PyData.bool true) = some (xs.map fun _ => true)
  | [] => rfl
  | _ :: r => by
    show (toBools (r.map fun _ => PyData.bool true)).map (true :: ·) = _
    rw [toBools_true r]
    rfl
theorem oAll_true {α : Type} (xs : List α) : oAll (.list (xs.map fun _ => PyData.bool true)) = some (.bool true) := by
  simp [oAll, toBools_true]
/-- all([p(x) for x in xs]) where all hold -/
theorem is_errand_ok {e : Er} (h : OkE e) : m_is_errand [encE e] = .ok (.bool true) := by
  obtain ⟨h1, h2, h3, h4, h5, l, h6⟩ := h
  have hc : compD (.one 1) teYes (eCall m_is_part (aCons (eVar 1) aNil)) [some (encE e), none] (e.parts.map encP) = .ok (e.parts.map fun _ => PyData.bool true) :=
    compD_map encP (fun _ => PyData.bool true) e.parts fun p hp => ⟨_, rfl, by simp [is_part_ok (h5 p hp)]⟩
  have hl : e.parts.length < 16777216 := by omega
  have hlast : atI (e.parts.map encP) (-1) = some (encP (l, none)) := by
    obtain ⟨r, hr⟩ : ∃ r, e.parts = r ++ [(l, none)] := List.getLast?_eq_some_iff.mp h6
    rw [hr, List.map_append, List.map_singleton]
    exact atI_last _ _
  have hmin : (if e.every - 1 < 20 then e.every - 1 else 20) ≤ 20 := by split <;> omega
  have b2 : decide (0 ≤ e.late ∧ e.late ≤ if e.every - 1 < 20 then e.every - 1 else 20) = true := by
    simp
    split <;> omega
  have c1 : decide (2 ≤ e.every ∧ e.every ≤ 60) = true := by simp; omega
  have c3 : decide (1 ≤ e.due ∧ e.due ≤ e.every - e.late) = true := by simp; omega
  have c4 : decide ((1 : Int) ≤ (e.parts.length : Int)) = true := by simp; omega
  have c5 : decide ((e.parts.length : Int) ≤ 4) = true := by simp; omega
  simp only [m_is_errand, runD_ap, startD_ap, seqS_ap, ifS_ap, teOr_ap, teNot_ap, eB_ap, eCall1_ap, eCall2_ap, eCall_ap, aCons_ap, aNil_ap, eOp_ap, eC_ap, eChain_ap, List.map_cons, List.map_nil, List.cons_append, List.nil_append, List.length_cons, List.length_nil, List.replicate, eVar_zero, eVar_succ, Res.bind_ok, Res.of_some, oIx_encE0, oIx_encE1, oIx_encE2, oIx_encE3,
    isaTuple_encE, oLen_encE, oNe_int, asB_bool, between_int, oSub_int, oMin_int, c1, b2, c3, isaTuple_tuple, oLen_tuple, oLe_int, List.length_map, c4, c5, Bool.not_true, Bool.not_false, if_true, if_false, toS_ok, andThen_nx, nxS_ap, retS_ap, eAnd_ap, eComp_ap, eCompL_ap, itSq_ap, items_tuple, slots_one, wipeD_cons, wipeD_nil]
  simp [hl, hc, oAll_true, hlast, encO, between_int, b2, c1, c3, c4, c5]
theorem are_errands_ok {es : List Er} (h : OkEs es) : m_are_errands [encEs es] = .ok (.bool true) := by
  obtain ⟨h1, h2⟩ := h
  have hc : compD (.one 1) teYes (eCall m_is_errand (aCons (eVar 1) aNil)) [some (encEs es), none] (es.map encE) = .ok (es.map fun _ => PyData.bool true) :=
    compD_map encE (fun _ => PyData.bool true) es fun e he => ⟨_, rfl, by simp [is_errand_ok (h2 e he)]⟩
  have hl : es.length < 16777216 := by omega
  have c1 : (1 : Int) ≤ (es.length : Int) := by omega
  have c2 : (es.length : Int) ≤ 6 := by omega
  have ht : isaTuple (encEs es) = some (.bool true) := rfl
  have hi : items (encEs es) = .ok (es.map encE) := rfl
  simp [m_are_errands, runD_ap, ht, c1, c2, hi, hl, hc, oAll_true]
theorem checked_ok {es : List Er} (h : OkEs es) : m_checked [encEs es] = .ok (encEs es) := by
  simp [m_checked, runD_ap, are_errands_ok h]
/-- ranks: an order of all errands' numbers -/
abbrev OkR (n : Nat) (rs : List Nat) : Prop := rs.Perm (List.range n)
theorem encR_ints (rs : List Nat) : rs.map encN = (rs.map fun (r : Nat) => (r : Int)).map PyData.int := by
  rw [List.map_map]; rfl
theorem toInts_encN (rs : List Nat) : toInts (rs.map encN) = some (rs.map fun (r : Nat) => (r : Int)) := by
  rw [encR_ints, toInts_map]
theorem range_rise (n : Nat) : ((List.range n).map fun (r : Nat) => (r : Int)).Pairwise (· ≤ ·) := by
  rw [List.pairwise_map]
  exact (List.pairwise_lt_range (n := n)).imp fun h => by omega
theorem sort_ranks {n : Nat} {rs : List Nat} (h : OkR n rs) : sortI (rs.map fun (r : Nat) => (r : Int)) = (List.range n).map fun (r : Nat) => (r : Int) :=
  rise_one ((sortI_perm _).trans (h.map _)) (sortI_rise _) (range_rise n)
theorem rangeD_encN (n : Nat) : rangeD 0 (n : Int) = (List.range n).map encN := rangeD_map n
theorem inB_nat {n : Nat} (h : n ≤ 1000000) : inB (n : Int) := ⟨by omega, by omega⟩
theorem need_ranks_ok {es : List Er} {rs : List Nat} (h : OkEs es) (hr : OkR es.length rs) : m_need_ranks [encEs es, encR rs] = .ok .none := by
  have hl := h.len
  have hrl : rs.length = es.length := by rw [hr.length_eq, List.length_range]
  have hc : compD (.one 2) teYes (eCall m_is_whole (aCons (eVar 2) aNil)) [some (encEs es), some (encR rs), none] (rs.map encN) = .ok (rs.map fun _ => PyData.bool true) :=
    compD_map encN (fun _ => PyData.bool true) rs fun r _ => ⟨_, rfl, by simp [encN, is_whole_int]⟩
  have ht : isaTuple (encR rs) = some (.bool true) := rfl
  have hi : items (encR rs) = .ok (rs.map encN) := rfl
  have hL : oList (encR rs) = some (.list (rs.map encN)) := rfl
  have hs : oSorted (.list (rs.map encN)) = some (.list ((List.range es.length).map encN)) := by
    unfold oSorted
    dsimp only
    rw [toInts_encN, Option.bind_some, List.length_map, if_pos (by omega), sort_ranks hr, ← encR_ints]
  have hb : inB (es.length : Int) := inB_nat (by omega)
  have hne : oNe (.list ((List.range es.length).map encN)) (.list ((List.range es.length).map encN)) = some (.bool false) := oNe_self (n := 1) (by rw [encR_ints]; exact lay_ints 0 _)
  simp [m_need_ranks, runD_ap, checked_ok h, ht, hi, show rs.length < 16777216 by omega, hc, oAll_true, hL, hs, hb, rangeD_encN, hne]
theorem need_errand_ok {es : List Er} {n : Nat} (h : n < es.length) : m_need_errand [encEs es, encN n] = .ok .none := by
  have b : decide ((0 : Int) ≤ (n : Int) ∧ (n : Int) ≤ (es.length : Int) - 1) = true := by simp; omega
  simp only [m_need_errand, runD_ap, encN]
  simp [between_int]
  rw [if_neg (by omega)]
  rfl
/-- the work of an errand -/
def work (e : Er) : Int := (e.parts.map (·.1)).sum
theorem work_of_ok {e : Er} (h : e.parts.length ≤ 4) : m_work_of [encE e] = .ok (.int (work e)) := by
  have hc : compD (.one 1) teYes (eOp oIx (eVar 1) (eC (.int 0))) [some (encE e), none] (e.parts.map encP) = .ok (e.parts.map fun p => PyData.int p.1) :=
    compD_map encP (fun p => PyData.int p.1) e.parts fun p hp => ⟨_, rfl, by simp⟩
  have hs : oSum (.list (e.parts.map fun p => PyData.int p.1)) = some (.int (work e)) := by
    unfold oSum
    have z : (e.parts.map fun p => PyData.int p.1) = (e.parts.map (·.1)).map PyData.int := by rw [List.map_map]; rfl
    rw [z]
    dsimp only
    rw [toInts_map]
    rfl
  simp [m_work_of, runD_ap, show e.parts.length < 16777216 by omega, hc, hs]
def hasTool (e : Er) (t : Int) : Bool := e.parts.any fun p => p.2 == some t
theorem has_tool_ok {e : Er} (h : e.parts.length ≤ 4) (t : Int) : m_has_tool [encE e, .int t] = .ok (.bool (hasTool e t)) := by
  have hc : compD (.one 2) teYes (eOp oIx (eVar 2) (eC (.int 1))) [some (encE e), some (.int t), none] (e.parts.map encP) = .ok (e.parts.map fun p => encO p.2) :=
    compD_map encP (fun p => encO p.2) e.parts fun p hp => ⟨_, rfl, by simp⟩
  have hs : oIn (.int t) (.list (e.parts.map fun p => encO p.2)) = some (.bool (hasTool e t)) := by
    rw [oIn_of (n := 1) (Lay.int 1 t) (Lay.list fun d hd => by
      obtain ⟨p, _, rfl⟩ := List.mem_map.mp hd
      exact lay_encO 0 _)]
    congr 2
    unfold hasTool
    rw [List.any_map]
    congr 1
    funext p
    show PyData.eqv (encO p.2) (.int t) = _
    cases p.2 with
    | none => rfl
    | some u => simp [encO]
  simp [m_has_tool, runD_ap, show e.parts.length < 16777216 by omega, hc, hs]
end L2.DL
set_option maxHeartbeats 2000000
namespace L2.DL
open PySem PySem.Spec PyProof.Rows

/-! ### loops by goals -/
/-- goes on, with an env that Q tells -/
def Nx (r : SRes) (Q : Env → Prop) : Prop := ∃ ρ, r = .nx ρ ∧ Q ρ
theorem Nx.of {Q : Env → Prop} {ρ : Env} (h : Q ρ) : Nx (.nx ρ) Q := ⟨ρ, rfl, h⟩
theorem loopS_pre {α : Type} {t : Tgt} {fb : Sf} (enc : α → PyData) (R : List α → Env → Prop) : ∀ (xs pre : List α) (ρ : Env), R pre ρ → (∀ p a q ρ, pre ++ xs = p ++ a :: q → R p ρ → ∃ ρ1 ρ2, bindT t (enc a) ρ = .ok ρ1 ∧ fb ρ1 = .nx ρ2 ∧ R (p ++ [a]) ρ2) →
    ∃ ρ', loopS t fb (xs.map enc) ρ = .nx ρ' ∧ R (pre ++ xs) ρ'
  | [], pre, ρ, r, _ => ⟨ρ, rfl, by simpa using r⟩
  | a :: xs, pre, ρ, r, h => by
    obtain ⟨ρ1, ρ2, h1, h2, h3⟩ := h pre a xs ρ rfl r
    obtain ⟨ρ', h4, h5⟩ := loopS_pre enc R xs (pre ++ [a]) ρ2 h3 fun p b q ρ hb => h p b q ρ (by rw [← hb]; simp)
    refine ⟨ρ', ?_, by simpa using h5⟩
    rw [List.map_cons]
    unfold loopS
    rw [h1]
    dsimp only
    rw [h2]
    exact h4
theorem for_nx {α : Type} {M : List Nat} {it : Itr'} {t : Tgt} {fb : Sf} {ρ : Env} (enc : α → PyData) (R : List α → Env → Prop) (xs : List α) (hit : it (wipeD ρ M) = .ok (xs.map enc)) (h0 : R [] ρ)
    (hs : ∀ pre a post ρ, xs = pre ++ a :: post → R pre ρ → ∃ ρ1, bindT t (enc a) ρ = .ok ρ1 ∧ Nx (fb ρ1) (R (pre ++ [a]))) : Nx (forS M it t fb ρ) (R xs) := by
  obtain ⟨ρ', h1, h2⟩ := loopS_pre (t := t) (fb := fb) enc R xs [] ρ h0 fun pre a post ρ ha hr => by
    obtain ⟨ρ1, h1, ρ2, h2, h3⟩ := hs pre a post ρ ha hr
    exact ⟨ρ1, ρ2, h1, h2, h3⟩
  refine ⟨ρ', ?_, h2⟩
  rw [forS_ap, hit]
  exact h1
theorem nx_then {r : SRes} {g : Sf} {Q Q' : Env → Prop} (h : Nx r Q) (k : ∀ ρ, Q ρ → Nx (g ρ) Q') : Nx (r.andThen g) Q' := by
  obtain ⟨ρ, rfl, q⟩ := h
  exact k ρ q
theorem nx_toR {r : SRes} {g : Sf} {Q : Env → Prop} {v : Res PyData} (h : Nx r Q) (k : ∀ ρ, Q ρ → (g ρ).toR = v) : (r.andThen g).toR = v := by
  obtain ⟨ρ, rfl, q⟩ := h
  exact k ρ q
theorem nx_mono {r : SRes} {Q Q' : Env → Prop} (h : Nx r Q) (k : ∀ ρ, Q ρ → Q' ρ) : Nx r Q' := by
  obtain ⟨ρ, rfl, q⟩ := h
  exact ⟨ρ, rfl, k ρ q⟩
/-- a loop that may return -/
theorem for_find {α : Type} {M : List Nat} {it : Itr'} {t : Tgt} {fb g : Sf} {ρ : Env} {v : Res PyData} (enc : α → PyData) (R : Env → Prop) (out : α → Option PyData) (xs : List α) (hit : it (wipeD ρ M) = .ok (xs.map enc)) (h0 : R ρ)
    (hs : ∀ a ρ, a ∈ xs → R ρ → ∃ ρ1, bindT t (enc a) ρ = .ok ρ1 ∧ (match out a with
      | some d => fb ρ1 = .ret d
      | none => Nx (fb ρ1) R))
    (hk : match xs.findSome? out with
      | some d => v = .ok d
      | none => ∀ ρ', R ρ' → (g ρ').toR = v) : ((forS M it t fb ρ).andThen g).toR = v := by
  have z := loopS_find (t := t) (fb := fb) enc R out xs ρ h0 hs
  rw [forS_ap, hit, toS_ok]
  cases e : xs.findSome? out with
  | some d =>
    rw [e] at z hk
    dsimp only at z hk
    rw [z, hk]
    rfl
  | none =>
    rw [e] at z hk
    dsimp only at z hk
    obtain ⟨ρ', h1, h2⟩ := z
    rw [h1]
    exact hk ρ' h2
/-! ### slices, index -/
theorem cut_to {ds : List PyData} {n : Nat} (h : n ≤ ds.length) : cutD ds none (some (n : Int)) = ds.take n := by
  unfold cutD
  rw [HT.sIx_none, HT.sIx_nat, List.drop_zero, Nat.sub_zero, Nat.min_eq_left h]
theorem cut_from {ds : List PyData} {n : Nat} (h : n ≤ ds.length) : cutD ds (some (n : Int)) none = ds.drop n := by
  unfold cutD
  rw [HT.sIx_none, HT.sIx_nat, Nat.min_eq_left h]
  exact List.take_of_length_le (by rw [List.length_drop]; exact Nat.le_refl _)
theorem idxOf_cast {rs : List Nat} {n : Nat} : (rs.map fun (r : Nat) => (r : Int)).idxOf (n : Int) = rs.idxOf n := by
  induction rs with
  | nil => rfl
  | cons a r ih =>
    rw [List.map_cons, List.idxOf_cons, List.idxOf_cons, ih]
    by_cases e : a = n
    · subst e; simp
    · have e2 : ((a : Int) == (n : Int)) = false := by simp; omega
      have e3 : (a == n) = false := by simp [e]
      rw [e2, e3]
theorem index_ok {rs : List Nat} {n : Nat} (h : n ∈ rs) : oIndexT (encR rs) (.int (n : Int)) = some (.int ((rs.idxOf n : Nat) : Int)) := by
  show (toInts (rs.map encN)).bind _ = _
  rw [toInts_encN, Option.bind_some, if_pos (List.mem_map.mpr ⟨n, h, rfl⟩), idxOf_cast]
@[simp] theorem tupO_encR (rs : List Nat) : tupO (encR rs) = .ok (encR rs) := rfl
theorem slice_from {rs : List Nat} {n : Nat} (h : n ≤ rs.length) : oSlice (encR rs) (some (n : Int)) none = some (encR (rs.drop n)) := by
  show some (PyData.tuple (cutD (rs.map encN) _ _)) = _
  rw [cut_from (by rw [List.length_map]; exact h), ← List.map_drop]
  rfl
theorem slice_to {rs : List Nat} {n : Nat} (h : n ≤ rs.length) : oSlice (encR rs) none (some (n : Int)) = some (encR (rs.take n)) := by
  show some (PyData.tuple (cutD (rs.map encN) _ _)) = _
  rw [cut_to (by rw [List.length_map]; exact h), ← List.map_take]
  rfl
@[simp] theorem items_encR (rs : List Nat) : items (encR rs) = .ok (rs.map encN) := rfl

/-! ### errands of usual size -/
structure FineE (e : Er) : Prop where
  every : 1 ≤ e.every ∧ e.every ≤ 1000
  late : 0 ≤ e.late ∧ e.late ≤ 1000
  parts : 1 ≤ e.parts.length ∧ e.parts.length ≤ 4
  part : ∀ p ∈ e.parts, 1 ≤ p.1 ∧ p.1 ≤ 1000 ∧ ∀ t, p.2 = some t → 0 ≤ t ∧ t ≤ 3
theorem OkE.fine {e : Er} (h : OkE e) : FineE e :=
  ⟨⟨by have := h.every; omega, by have := h.every; omega⟩, ⟨h.late.1, by have := h.late; omega⟩, h.parts, fun p hp => ⟨(h.part p hp).len.1, by have := (h.part p hp).len; omega, (h.part p hp).tool⟩⟩
structure FineEs (es : List Er) : Prop where
  len : es.length ≤ 6
  all : ∀ e ∈ es, FineE e
theorem OkEs.fine {es : List Er} (h : OkEs es) : FineEs es := ⟨h.len.2, fun e he => (h.all e he).fine⟩
theorem FineEs.at {es : List Er} (h : FineEs es) (n : Nat) : FineE (E es n) := by
  unfold E
  rw [List.getD_eq_getElem?_getD]
  cases e : es[n]? with
  | none => exact okDefault.fine
  | some x => exact h.all x (List.mem_of_getElem? e)
/-- an order of some of the errands -/
structure Rk (es : List Er) (rs : List Nat) : Prop where
  len : rs.length ≤ 6
  lt : ∀ r ∈ rs, r < es.length
theorem OkR.rk {es : List Er} {rs : List Nat} (h : OkR es.length rs) (hl : es.length ≤ 6) : Rk es rs :=
  ⟨by rw [h.length_eq, List.length_range]; exact hl, fun r hr => List.mem_range.mp (h.mem_iff.mp hr)⟩
theorem OkR.mem {es : List Er} {rs : List Nat} (h : OkR es.length rs) {n : Nat} (hn : n < es.length) : n ∈ rs := h.mem_iff.mpr (List.mem_range.mpr hn)
/-- the errand of a place -/
def rkAt (rs : List Nat) (k : Nat) : Nat := rs.getD k 0
theorem Rk.atlt {es : List Er} {rs : List Nat} (h : Rk es rs) {k : Nat} (hk : k < rs.length) : rkAt rs k < es.length := by
  unfold rkAt
  rw [List.getD_eq_getElem?_getD, List.getElem?_eq_getElem hk]
  exact h.lt _ (List.getElem_mem hk)
theorem ix_ranks {rs : List Nat} {k : Nat} (hk : k < rs.length) : oIx (encR rs) (.int (k : Int)) = some (.int ((rkAt rs k : Nat) : Int)) := by
  refine oIx_encR ?_
  unfold rkAt
  rw [List.getD_eq_getElem?_getD, List.getElem?_eq_getElem hk]
  rfl

/-! ### heights -/
def hgt (es : List Er) (rs : List Nat) (t : Int) : Option Nat := (List.range rs.length).find? fun k => hasTool (E es (rkAt rs k)) t
def encH (o : Option Nat) : PyData := encO (o.map fun (k : Nat) => (k : Int))
def encHs (es : List Er) (rs : List Nat) : List PyData := (List.range 4).map fun (t : Nat) => encH (hgt es rs (t : Int))
theorem tool_at (e : Er) (he : FineE e) (t : Int) : m_has_tool [encE e, .int t] = .ok (.bool (hasTool e t)) := has_tool_ok he.parts.2 t
theorem heights_of_ok {es : List Er} {rs : List Nat} (he : FineEs es) (hr : Rk es rs) : m_heights_of [encEs es, encR rs] = .ok (.list (encHs es rs)) := by
  have hl := hr.len
  simp only [m_heights_of, runD_ap]
  simp [-forS_ap]
  refine nx_toR (for_nx encN (fun pre ρ => ∃ a b, ρ = [some (encEs es), some (encR rs), some (.list (pre.map fun (t : Nat) => encH (hgt es rs (t : Int)))), a, b, none]) (List.range 4) (by simp [inB]; exact rangeD_map 4) ⟨_, _, rfl⟩ fun pre a post ρ ha ⟨x, y, hρ⟩ => ?_) fun ρ ⟨a, b, hρ⟩ => by subst hρ; simp [encHs]
  subst hρ
  refine ⟨_, rfl, ?_⟩
  have hc : compD (.one 5) (eB (eCall m_has_tool (aCons (eOp oIx (eVar 0) (eOp oIx (eVar 1) (eVar 5))) (aCons (eVar 3) aNil)))) (eVar 5) [some (encEs es), some (encR rs), none, some (encN a), y, none] ((List.range rs.length).map encN) = .ok (((List.range rs.length).filter fun k => hasTool (E es (rkAt rs k)) (a : Int)).map encN) :=
    compD_enc encN _ encN _ fun k hk => by
      have hk := List.mem_range.mp hk
      refine ⟨_, rfl, ?_, fun _ => ?_⟩
      · have := tool_at (E es (rkAt rs k)) (he.at _) (a : Int)
        simp only [encN, eB_ap, eCall_ap, aCons_ap, eOp_ap, List.set_cons_succ, List.set_cons_zero, eVar_succ, eVar_zero, Res.bind_ok, ix_ranks hk, Res.of_some, oIx_encEs (hr.atlt hk), aNil_ap, this]
        rfl
      · simp [encN]
  have hfl : ((List.range rs.length).filter fun k => hasTool (E es (rkAt rs k)) (a : Int)).length ≤ 6 := Nat.le_trans (List.length_filter_le _ _) (by rw [List.length_range]; exact hl)
  have hpl : pre.length < 16777216 := by
    have := congrArg List.length ha
    simp at this
    omega
  have hb : inB (rs.length : Int) := inB_nat (by omega)
  have hx : atI (((List.range rs.length).filter fun k => hasTool (E es (rkAt rs k)) (a : Int)).map encN ++ [PyData.none]) 0 = some (encH (hgt es rs (a : Int))) := by
    unfold hgt
    rw [← List.head?_filter]
    cases (List.range rs.length).filter fun k => hasTool (E es (rkAt rs k)) (a : Int) with
    | nil => rfl
    | cons x r => simp [encN, encH, encO]
  have hl1 : rs.length < 16777216 := by omega
  generalize ((List.range rs.length).filter fun k => hasTool (E es (rkAt rs k)) (a : Int)) = F at hc hfl hx
  have hl2 : F.length ≤ 16777215 := by omega
  simp [hb, rangeD_encN, hc, hl1, hl2, hx, hpl]
  exact Nx.of ⟨_, _, rfl⟩
end L2.DL
set_option maxHeartbeats 2000000
namespace L2.DL
open PySem PySem.Spec PyProof.Rows

theorem compD_filterMap {α β : Type} {t : Tgt} {c : Te} {e : Ex} {ρ : Env} (enc : α → PyData) (f : α → Option β) (encb : β → PyData) : ∀ (xs : List α), (∀ a ∈ xs, ∃ ρ1, bindT t (enc a) ρ = .ok ρ1 ∧ c ρ1 = .ok (f a).isSome ∧ ∀ b, f a = some b → e ρ1 = .ok (encb b)) → compD t c e ρ (xs.map enc) = .ok ((xs.filterMap f).map encb)
  | [], _ => rfl
  | a :: xs, h => by
    obtain ⟨ρ1, h1, h2, h3⟩ := h a List.mem_cons_self
    have ih := compD_filterMap (t := t) (c := c) (e := e) (ρ := ρ) enc f encb xs fun b hb => h b (List.mem_cons_of_mem _ hb)
    rw [List.map_cons]
    unfold compD
    rw [h1, Res.bind_ok, h2, noErr_ok, Res.bind_ok, ih]
    cases hf : f a with
    | none => simp [List.filterMap_cons, hf]
    | some b =>
      rw [h3 b hf]
      simp [List.filterMap_cons, hf]
theorem enumFrom_map {α : Type} (f : α → PyData) : ∀ (xs : List α) (i : Nat), enumFrom i (xs.map f) = (xs.zipIdx i).map fun p => PyData.tuple [.int (p.2 : Int), f p.1]
  | [], _ => rfl
  | x :: xs, i => by
    rw [List.map_cons, List.zipIdx_cons, List.map_cons, ← enumFrom_map f xs (i + 1)]
    rfl
theorem isN_encO (o : Option Int) : isN (encO o) = o.isNone := by cases o <;> rfl
end L2.DL
set_option maxHeartbeats 2000000
namespace L2.DL
open PySem PySem.Spec PyProof.Rows

/-! ### methods, makers with a promise by hand -/
theorem Dm.mk' {P : Program} {w : World} {K : PySem.W.Frag} {mg : Str → Option Value} {base : Heap} {c m qual : Str} {C : Addr} {st : Stmt} {f : Addr} {fd : FuncData} {N ps : List Str} {k n l : Nat} {s : Sf} {M' : List Nat} (F : Fun K m qual st f fd) (hC : ClsAt K c C) (cl : Cls K C) (hm : Meth K C m f) (b : Binds K fd ps []) (S : FnScope N ps (defScope st)) (hn : ps.length = n) (hN : N.length = l)
    (body : ∀ (cdv : Value) (A : Around) (outer : List PySem.Env) (s0 : Shared) (H : Hp) (E : XK), Room k (A.deeper (envOfC qual (defScope st) s0.heap.objs.size f cdv)) →
      Takes (cxOf (L2.CX P w) P w K mg base N qual (defScope st) f cdv A outer s0 H E) (WOf E) →
      PassesOwn (model P w) (A.deeper (envOfC qual (defScope st) s0.heap.objs.size f cdv)) (cxOf (L2.CX P w) P w K mg base N qual (defScope st) f cdv A outer s0 H E).env (cxOf (L2.CX P w) P w K mg base N qual (defScope st) f cdv A outer s0 H E).xe →
      DSs (cxOf (L2.CX P w) P w K mg base N qual (defScope st) f cdv A outer s0 H E) (WOf E) [] M' [] (defBody st) s) : Dm P w K mg base c m (k + 1) n (runD l s) := ⟨C, f, fd, ps, fn_mk' F S hn hN body, hC, cl, hm, b⟩
/-- a method with a promise of its own -/
structure DmS (P : Program) (w : World) (K : PySem.W.Frag) (mg : Str → Option Value) (base : Heap) (c m : Str) (k : Nat) (sp : Addr → Sp) : Prop where
  ex : ∃ (C f : Addr) (fd : FuncData) (ps : List Str), FnOk P w K mg base (L2.CX P w) k f fd ps (sp C) ∧ ClsAt K c C ∧ Cls K C ∧ Meth K C m f ∧ Binds K fd ps []
theorem DmS.mono {P : Program} {w : World} {K : PySem.W.Frag} {mg : Str → Option Value} {base : Heap} {c m : Str} {j k : Nat} {sp : Addr → Sp} (F : DmS P w K mg base c m j sp) (h : j ≤ k) : DmS P w K mg base c m k sp := by
  obtain ⟨C, f, fd, ps, h1, h2⟩ := F.ex
  exact ⟨C, f, fd, ps, h1.mono h, h2⟩
/-- a class whose __init__ has a promise of its own -/
structure DmI (P : Program) (w : World) (K : PySem.W.Frag) (mg : Str → Option Value) (base : Heap) (c : Str) (k : Nat) (sp : Addr → Sp) : Prop where
  ex : ∃ (C f : Addr) (fd : FuncData) (ps : List Str), FnOk P w K mg base (L2.CX P w) k f fd ps (sp C) ∧ ClsAt K c C ∧ Cls K C ∧ Mk K C f ∧ mg c = some (.ref C) ∧ Binds K fd ps []
theorem DmI.mono {P : Program} {w : World} {K : PySem.W.Frag} {mg : Str → Option Value} {base : Heap} {c : Str} {j k : Nat} {sp : Addr → Sp} (F : DmI P w K mg base c j sp) (h : j ≤ k) : DmI P w K mg base c k sp := by
  obtain ⟨C, f, fd, ps, h1, h2⟩ := F.ex
  exact ⟨C, f, fd, ps, h1.mono h, h2⟩

/-! ### jobs -/
structure Jb where
  num : Nat
  come : Int
  part : Nat
  spent : Nat
  deriving DecidableEq
instance : Inhabited Jb := ⟨⟨0, 0, 0, 0⟩⟩
def jobFs (e : Nat) (j : Jb) (pa : V) : List (Str × V) := [("errand", .int (e : Int)), ("number", .int (j.num : Int)), ("come", .int j.come), ("parts", pa), ("part", .int (j.part : Int)), ("spent", .int (j.spent : Int))]
def partsD (es : List Er) (e : Nat) : PyData := .tuple ((E es e).parts.map encP)
def jobKv (es : List Er) (e : Nat) (j : Jb) : List (PyData × PyData) := [(.str "errand", .int (e : Int)), (.str "number", .int (j.num : Int)), (.str "come", .int j.come), (.str "parts", partsD es e), (.str "part", .int (j.part : Int)), (.str "spent", .int (j.spent : Int))]
def jobD (es : List Er) (e : Nat) (x : Addr × Jb) : PyData := .dict (insTag "Job" x.1 :: jobKv es e x.2)
/-- a time of work at a part of the length len -/
def doJ (len : Int) (j : Jb) : Jb := if (j.spent : Int) + 1 = len then { j with part := j.part + 1, spent := 0 } else { j with spent := j.spent + 1 }
theorem jobF {K : PySem.W.Frag} {H : Hp} {es : List Er} {e : Nat} {j : Jb} {pa : V} (h : Dp K H pa (partsD es e)) : DpF K H (jobFs e j pa) (jobKv es e j) :=
  .cons (.int _) (.cons (.int _) (.cons (.int _) (.cons h (.cons (.int _) (.cons (.int _) .nil)))))
theorem jobDp {K : PySem.W.Frag} {H : Hp} {es : List Er} {e : Nat} {x : Addr × Jb} {pa : V} {C dx : Addr} (hC : ClsAt K "Job" C) (h : H x.1 = some (.ins C dx (jobFs e x.2 pa))) (hp : Dp K H pa (partsD es e)) : Dp K H (.ref x.1) (jobD es e x) :=
  .ins h hC (jobF hp)
theorem DpAll.of_get {K : PySem.W.Frag} {H : Hp} : ∀ {vs : List V} {ds : List PyData}, vs.length = ds.length → (∀ (i : Nat) (v : V) (d : PyData), vs[i]? = some v → ds[i]? = some d → Dp K H v d) → DpAll K H vs ds
  | [], [], _, _ => .nil
  | [], _ :: _, h, _ => by cases h
  | _ :: _, [], h, _ => by cases h
  | v :: vs, d :: ds, h, k => .cons (k 0 v d rfl rfl) (DpAll.of_get (by simpa using h) fun i v d h1 h2 => k (i + 1) v d (by simpa using h1) (by simpa using h2))
theorem DpAll.map_of {K : PySem.W.Frag} {H : Hp} {α : Type} {f : α → V} {g : α → PyData} : ∀ {xs : List α}, (∀ x ∈ xs, Dp K H (f x) (g x)) → DpAll K H (xs.map f) (xs.map g)
  | [], _ => .nil
  | x :: xs, h => .cons (h x List.mem_cons_self) (DpAll.map_of fun y hy => h y (List.mem_cons_of_mem _ hy))

/-! ### the fields' names -/
theorem FldOk.na {K : PySem.W.Frag} {c f : Str} {C : Addr} (F : FldOk K c f) (hC : ClsAt K c C) : NoAttr K C f := by
  obtain ⟨D, h1, _, h2⟩ := F.ex
  have := hC.one h1
  subst this
  exact h2
theorem n_errand_number : ¬ (("errand" : Str) = "number") := by decide +kernel
theorem n_errand_come : ¬ (("errand" : Str) = "come") := by decide +kernel
theorem n_errand_parts : ¬ (("errand" : Str) = "parts") := by decide +kernel
theorem n_errand_part : ¬ (("errand" : Str) = "part") := by decide +kernel
theorem n_errand_spent : ¬ (("errand" : Str) = "spent") := by decide +kernel
theorem n_number_errand : ¬ (("number" : Str) = "errand") := by decide +kernel
theorem n_number_come : ¬ (("number" : Str) = "come") := by decide +kernel
theorem n_number_parts : ¬ (("number" : Str) = "parts") := by decide +kernel
theorem n_number_part : ¬ (("number" : Str) = "part") := by decide +kernel
theorem n_number_spent : ¬ (("number" : Str) = "spent") := by decide +kernel
theorem n_come_errand : ¬ (("come" : Str) = "errand") := by decide +kernel
theorem n_come_number : ¬ (("come" : Str) = "number") := by decide +kernel
theorem n_come_parts : ¬ (("come" : Str) = "parts") := by decide +kernel
theorem n_come_part : ¬ (("come" : Str) = "part") := by decide +kernel
theorem n_come_spent : ¬ (("come" : Str) = "spent") := by decide +kernel
theorem n_parts_errand : ¬ (("parts" : Str) = "errand") := by decide +kernel
theorem n_parts_number : ¬ (("parts" : Str) = "number") := by decide +kernel
theorem n_parts_come : ¬ (("parts" : Str) = "come") := by decide +kernel
theorem n_parts_part : ¬ (("parts" : Str) = "part") := by decide +kernel
theorem n_parts_spent : ¬ (("parts" : Str) = "spent") := by decide +kernel
theorem n_part_errand : ¬ (("part" : Str) = "errand") := by decide +kernel
theorem n_part_number : ¬ (("part" : Str) = "number") := by decide +kernel
theorem n_part_come : ¬ (("part" : Str) = "come") := by decide +kernel
theorem n_part_parts : ¬ (("part" : Str) = "parts") := by decide +kernel
theorem n_part_spent : ¬ (("part" : Str) = "spent") := by decide +kernel
theorem n_spent_errand : ¬ (("spent" : Str) = "errand") := by decide +kernel
theorem n_spent_number : ¬ (("spent" : Str) = "number") := by decide +kernel
theorem n_spent_come : ¬ (("spent" : Str) = "come") := by decide +kernel
theorem n_spent_parts : ¬ (("spent" : Str) = "parts") := by decide +kernel
theorem n_spent_part : ¬ (("spent" : Str) = "part") := by decide +kernel
theorem n_errands_ranks : ¬ (("errands" : Str) = "ranks") := by decide +kernel
theorem n_errands_lending : ¬ (("errands" : Str) = "lending") := by decide +kernel
theorem n_errands_heights : ¬ (("errands" : Str) = "heights") := by decide +kernel
theorem n_errands_queues : ¬ (("errands" : Str) = "queues") := by decide +kernel
theorem n_ranks_errands : ¬ (("ranks" : Str) = "errands") := by decide +kernel
theorem n_ranks_lending : ¬ (("ranks" : Str) = "lending") := by decide +kernel
theorem n_ranks_heights : ¬ (("ranks" : Str) = "heights") := by decide +kernel
theorem n_ranks_queues : ¬ (("ranks" : Str) = "queues") := by decide +kernel
theorem n_lending_errands : ¬ (("lending" : Str) = "errands") := by decide +kernel
theorem n_lending_ranks : ¬ (("lending" : Str) = "ranks") := by decide +kernel
theorem n_lending_heights : ¬ (("lending" : Str) = "heights") := by decide +kernel
theorem n_lending_queues : ¬ (("lending" : Str) = "queues") := by decide +kernel
theorem n_heights_errands : ¬ (("heights" : Str) = "errands") := by decide +kernel
theorem n_heights_ranks : ¬ (("heights" : Str) = "ranks") := by decide +kernel
theorem n_heights_lending : ¬ (("heights" : Str) = "lending") := by decide +kernel
theorem n_heights_queues : ¬ (("heights" : Str) = "queues") := by decide +kernel
theorem n_queues_errands : ¬ (("queues" : Str) = "errands") := by decide +kernel
theorem n_queues_ranks : ¬ (("queues" : Str) = "ranks") := by decide +kernel
theorem n_queues_lending : ¬ (("queues" : Str) = "lending") := by decide +kernel
theorem n_queues_heights : ¬ (("queues" : Str) = "heights") := by decide +kernel
theorem jput1 {e : V} : (putF "errand" e []) = ([("errand", e)] : List (Str × V)) := by
  simp [putF, n_errand_number, n_errand_come, n_errand_parts, n_errand_part, n_errand_spent, n_number_errand, n_number_come, n_number_parts, n_number_part, n_number_spent, n_come_errand, n_come_number, n_come_parts, n_come_part, n_come_spent, n_parts_errand, n_parts_number, n_parts_come, n_parts_part, n_parts_spent, n_part_errand, n_part_number, n_part_come, n_part_parts, n_part_spent, n_spent_errand, n_spent_number, n_spent_come, n_spent_parts, n_spent_part]
theorem jput2 {e n : V} : (putF "number" n (putF "errand" e [])) = ([("errand", e), ("number", n)] : List (Str × V)) := by
  simp [putF, n_errand_number, n_errand_come, n_errand_parts, n_errand_part, n_errand_spent, n_number_errand, n_number_come, n_number_parts, n_number_part, n_number_spent, n_come_errand, n_come_number, n_come_parts, n_come_part, n_come_spent, n_parts_errand, n_parts_number, n_parts_come, n_parts_part, n_parts_spent, n_part_errand, n_part_number, n_part_come, n_part_parts, n_part_spent, n_spent_errand, n_spent_number, n_spent_come, n_spent_parts, n_spent_part]
theorem jput3 {e n c : V} : (putF "come" c (putF "number" n (putF "errand" e []))) = ([("errand", e), ("number", n), ("come", c)] : List (Str × V)) := by
  simp [putF, n_errand_number, n_errand_come, n_errand_parts, n_errand_part, n_errand_spent, n_number_errand, n_number_come, n_number_parts, n_number_part, n_number_spent, n_come_errand, n_come_number, n_come_parts, n_come_part, n_come_spent, n_parts_errand, n_parts_number, n_parts_come, n_parts_part, n_parts_spent, n_part_errand, n_part_number, n_part_come, n_part_parts, n_part_spent, n_spent_errand, n_spent_number, n_spent_come, n_spent_parts, n_spent_part]
theorem jput4 {e n c pa : V} : (putF "parts" pa (putF "come" c (putF "number" n (putF "errand" e [])))) = ([("errand", e), ("number", n), ("come", c), ("parts", pa)] : List (Str × V)) := by
  simp [putF, n_errand_number, n_errand_come, n_errand_parts, n_errand_part, n_errand_spent, n_number_errand, n_number_come, n_number_parts, n_number_part, n_number_spent, n_come_errand, n_come_number, n_come_parts, n_come_part, n_come_spent, n_parts_errand, n_parts_number, n_parts_come, n_parts_part, n_parts_spent, n_part_errand, n_part_number, n_part_come, n_part_parts, n_part_spent, n_spent_errand, n_spent_number, n_spent_come, n_spent_parts, n_spent_part]
theorem jput5 {e n c pa k : V} : (putF "part" k (putF "parts" pa (putF "come" c (putF "number" n (putF "errand" e []))))) = ([("errand", e), ("number", n), ("come", c), ("parts", pa), ("part", k)] : List (Str × V)) := by
  simp [putF, n_errand_number, n_errand_come, n_errand_parts, n_errand_part, n_errand_spent, n_number_errand, n_number_come, n_number_parts, n_number_part, n_number_spent, n_come_errand, n_come_number, n_come_parts, n_come_part, n_come_spent, n_parts_errand, n_parts_number, n_parts_come, n_parts_part, n_parts_spent, n_part_errand, n_part_number, n_part_come, n_part_parts, n_part_spent, n_spent_errand, n_spent_number, n_spent_come, n_spent_parts, n_spent_part]
theorem jput6 {e n c pa k s : V} : (putF "spent" s (putF "part" k (putF "parts" pa (putF "come" c (putF "number" n (putF "errand" e [])))))) = ([("errand", e), ("number", n), ("come", c), ("parts", pa), ("part", k), ("spent", s)] : List (Str × V)) := by
  simp [putF, n_errand_number, n_errand_come, n_errand_parts, n_errand_part, n_errand_spent, n_number_errand, n_number_come, n_number_parts, n_number_part, n_number_spent, n_come_errand, n_come_number, n_come_parts, n_come_part, n_come_spent, n_parts_errand, n_parts_number, n_parts_come, n_parts_part, n_parts_spent, n_part_errand, n_part_number, n_part_come, n_part_parts, n_part_spent, n_spent_errand, n_spent_number, n_spent_come, n_spent_parts, n_spent_part]
theorem jl_spent (e : Nat) (j : Jb) (pa : V) : (jobFs e j pa).lookup ("spent" : Str) = some (.int (j.spent : Int)) := by
  have h1 : (("spent" : Str) == "errand") = false := by decide +kernel
  have h2 : (("spent" : Str) == "number") = false := by decide +kernel
  have h3 : (("spent" : Str) == "come") = false := by decide +kernel
  have h4 : (("spent" : Str) == "parts") = false := by decide +kernel
  have h5 : (("spent" : Str) == "part") = false := by decide +kernel
  simp [jobFs, List.lookup_cons, h1, h2, h3, h4, h5]
theorem jl_part (e : Nat) (j : Jb) (pa : V) : (jobFs e j pa).lookup ("part" : Str) = some (.int (j.part : Int)) := by
  have h1 : (("part" : Str) == "errand") = false := by decide +kernel
  have h2 : (("part" : Str) == "number") = false := by decide +kernel
  have h3 : (("part" : Str) == "come") = false := by decide +kernel
  have h4 : (("part" : Str) == "parts") = false := by decide +kernel
  simp [jobFs, List.lookup_cons, h1, h2, h3, h4]
theorem jl_parts (e : Nat) (j : Jb) (pa : V) : (jobFs e j pa).lookup ("parts" : Str) = some pa := by
  have h1 : (("parts" : Str) == "errand") = false := by decide +kernel
  have h2 : (("parts" : Str) == "number") = false := by decide +kernel
  have h3 : (("parts" : Str) == "come") = false := by decide +kernel
  simp [jobFs, List.lookup_cons, h1, h2, h3]
theorem jl_errand (e : Nat) (j : Jb) (pa : V) : (jobFs e j pa).lookup ("errand" : Str) = some (.int (e : Int)) := by
  simp [jobFs, List.lookup_cons]
theorem jl_number (e : Nat) (j : Jb) (pa : V) : (jobFs e j pa).lookup ("number" : Str) = some (.int (j.num : Int)) := by
  have h1 : (("number" : Str) == "errand") = false := by decide +kernel
  simp [jobFs, List.lookup_cons, h1]
theorem jl_come (e : Nat) (j : Jb) (pa : V) : (jobFs e j pa).lookup ("come" : Str) = some (.int j.come) := by
  have h1 : (("come" : Str) == "errand") = false := by decide +kernel
  have h2 : (("come" : Str) == "number") = false := by decide +kernel
  simp [jobFs, List.lookup_cons, h1, h2]
theorem jp_spent' (e : Nat) (j : Jb) (pa : V) (i : Int) (k : Nat) (h : i = (k : Int)) : putF "spent" (.int i) (jobFs e j pa) = jobFs e { j with spent := k } pa := by
  subst h
  simp [putF, jobFs, n_errand_number, n_errand_come, n_errand_parts, n_errand_part, n_errand_spent, n_number_errand, n_number_come, n_number_parts, n_number_part, n_number_spent, n_come_errand, n_come_number, n_come_parts, n_come_part, n_come_spent, n_parts_errand, n_parts_number, n_parts_come, n_parts_part, n_parts_spent, n_part_errand, n_part_number, n_part_come, n_part_parts, n_part_spent, n_spent_errand, n_spent_number, n_spent_come, n_spent_parts, n_spent_part]
theorem jp_part' (e : Nat) (j : Jb) (pa : V) (i : Int) (k : Nat) (h : i = (k : Int)) : putF "part" (.int i) (jobFs e j pa) = jobFs e { j with part := k } pa := by
  subst h
  simp [putF, jobFs, n_errand_number, n_errand_come, n_errand_parts, n_errand_part, n_errand_spent, n_number_errand, n_number_come, n_number_parts, n_number_part, n_number_spent, n_come_errand, n_come_number, n_come_parts, n_come_part, n_come_spent, n_parts_errand, n_parts_number, n_parts_come, n_parts_part, n_parts_spent, n_part_errand, n_part_number, n_part_come, n_part_parts, n_part_spent, n_spent_errand, n_spent_number, n_spent_come, n_spent_parts, n_spent_part]
theorem jlen (e : Nat) (j : Jb) (pa : V) : (jobFs e j pa).length < 1000 := by show 6 < 1000; decide

/-! ### the hand -/
abbrev Qs := List (List (Addr × Jb))
def qAt (q : Qs) (e : Nat) : List (Addr × Jb) := q.getD e []
def rowD (es : List Er) (q : Qs) (e : Nat) : PyData := .list ((qAt q e).map (jobD es e))
def qD (es : List Er) (q : Qs) : List PyData := (List.range q.length).map (rowD es q)
def handFs (aE aR aH aQ : Addr) (l : Str) : List (Str × V) := [("errands", .ref aE), ("ranks", .ref aR), ("lending", .str l), ("heights", .ref aH), ("queues", .ref aQ)]
def handKv (es : List Er) (rs : List Nat) (l : Str) (q : Qs) : List (PyData × PyData) := [(.str "errands", encEs es), (.str "ranks", encR rs), (.str "lending", .str l), (.str "heights", .list (encHs es rs)), (.str "queues", .list (qD es q))]
def handD (p : Addr) (es : List Er) (rs : List Nat) (l : Str) (q : Qs) : PyData := .dict (insTag "Hand" p :: handKv es rs l q)
def addrs (q : Qs) : List Addr := q.flatMap fun js => js.map (·.1)
/-- in H a hand stands at p; all that may change lies in A -/
structure HandIn (K : PySem.W.Frag) (Bh H : Hp) (A : List Addr) (p : Addr) (es : List Er) (rs : List Nat) (l : Str) (q : Qs) (CH CJ dx aE aR aH aQ : Addr) (rows : List Addr) : Prop where
  cH : ClsAt K "Hand" CH
  cJ : ClsAt K "Job" CJ
  at_ : H p = some (.ins CH dx (handFs aE aR aH aQ l))
  base : Same Bh (cut A H)
  dE : Dp K Bh (.ref aE) (encEs es)
  dR : Dp K Bh (.ref aR) (encR rs)
  dH : Dp K Bh (.ref aH) (.list (encHs es rs))
  qs : H aQ = some (.lst (rows.map V.ref))
  len : rows.length = q.length
  row : ∀ e, e < q.length → H (rows.getD e 0) = some (.lst ((qAt q e).map fun x => V.ref x.1))
  job : ∀ e, e < q.length → ∀ x ∈ qAt q e, ∃ dx pa, H x.1 = some (.ins CJ dx (jobFs e x.2 pa)) ∧ Dp K (cut A H) pa (partsD es e)
  nd : (aQ :: rows).Nodup
  ndj : (addrs q).Nodup
  sub : p ∈ A ∧ aQ ∈ A ∧ (∀ r ∈ rows, r ∈ A) ∧ ∀ x ∈ addrs q, x ∈ A
  all : ∀ a ∈ A, ∃ o, H a = some o
def HandAt (K : PySem.W.Frag) (Bh H : Hp) (A : List Addr) (p : Addr) (es : List Er) (rs : List Nat) (l : Str) (q : Qs) : Prop := ∃ CH CJ dx aE aR aH aQ rows, HandIn K Bh H A p es rs l q CH CJ dx aE aR aH aQ rows
section
variable {K : PySem.W.Frag} {Bh H H' : Hp} {A : List Addr} {p : Addr} {es : List Er} {rs : List Nat} {l : Str} {q : Qs} {CH CJ dx aE aR aH aQ : Addr} {rows : List Addr}
theorem HandIn.mono (h : HandIn K Bh H A p es rs l q CH CJ dx aE aR aH aQ rows) (s : Same H H') : HandIn K Bh H' A p es rs l q CH CJ dx aE aR aH aQ rows where
  cH := h.cH
  cJ := h.cJ
  at_ := s _ _ h.at_
  base := h.base.trans (cutMono s)
  dE := h.dE
  dR := h.dR
  dH := h.dH
  qs := s _ _ h.qs
  len := h.len
  row := fun e he => s _ _ (h.row e he)
  job := fun e he x hx => by
    obtain ⟨dx, pa, h1, h2⟩ := h.job e he x hx
    exact ⟨dx, pa, s _ _ h1, dpMono (cutMono s) h2⟩
  nd := h.nd
  ndj := h.ndj
  sub := h.sub
  all := fun a ha => by
    obtain ⟨o, e⟩ := h.all a ha
    exact ⟨o, s _ _ e⟩
theorem HandAt.mono (h : HandAt K Bh H A p es rs l q) (s : Same H H') : HandAt K Bh H' A p es rs l q := by
  obtain ⟨CH, CJ, dx, aE, aR, aH, aQ, rows, h⟩ := h
  exact ⟨CH, CJ, dx, aE, aR, aH, aQ, rows, h.mono s⟩
theorem HandIn.dp (h : HandIn K Bh H A p es rs l q CH CJ dx aE aR aH aQ rows) : Dp K H (.ref p) (handD p es rs l q) := by
  refine .ins h.at_ h.cH (.cons (dpMono (h.base.trans cutSame) h.dE) (.cons (dpMono (h.base.trans cutSame) h.dR) (.cons (.str _) (.cons (dpMono (h.base.trans cutSame) h.dH) (.cons (.lst (.inl (.inl h.qs)) ?_) .nil)))))
  refine DpAll.of_get (by simp [qD, h.len]) fun i v d h1 h2 => ?_
  unfold qD at h2
  rw [List.getElem?_map] at h1 h2
  have hi : i < q.length := by
    cases e : (List.range q.length)[i]? with
    | none => rw [e] at h2; cases h2
    | some j =>
      have := (List.getElem?_eq_some_iff.mp e).1
      simpa using this
  rw [List.getElem?_range hi] at h2
  cases h2
  have hr : rows[i]? = some (rows.getD i 0) := by
    rw [List.getD_eq_getElem?_getD, List.getElem?_eq_getElem (by rw [h.len]; exact hi)]
    rfl
  rw [hr] at h1
  cases h1
  refine .lst (.inl (.inl (h.row i hi))) (DpAll.map_of (f := fun (x : Addr × Jb) => V.ref x.1) fun x hx => ?_)
  obtain ⟨dx, pa, g1, g2⟩ := h.job i hi x hx
  exact jobDp h.cJ g1 (dpMono cutSame g2)
theorem HandAt.dp (h : HandAt K Bh H A p es rs l q) : Dp K H (.ref p) (handD p es rs l q) := by
  obtain ⟨CH, CJ, dx, aE, aR, aH, aQ, rows, h⟩ := h
  exact h.dp
end
theorem updAll {H : Hp} {A : List Addr} {b : Addr} {o : HO} (h : ∀ a ∈ A, ∃ o, H a = some o) : ∀ a ∈ A, ∃ u, upd H b o a = some u := fun a ha => by
  by_cases z : a = b
  · rw [z]; exact ⟨_, upd_same⟩
  · rw [upd_ne z]; exact h a ha
theorem hmAA_of {K : PySem.W.Frag} {Bh H : Hp} {A : List Addr} {p : Addr} {es : List Er} {rs : List Nat} {l : Str} {q : Qs} (h : HandAt K Bh H A p es rs l q) {a : Addr} (ha : a ∈ A) (hn : H a = none) : False := by
  obtain ⟨_, _, _, _, _, _, _, _, hI⟩ := h
  obtain ⟨o, e⟩ := hI.all a ha
  rw [hn] at e
  cases e
/-- the rows behind a time's work at the first job of the errand e -/
def workQ (es : List Er) (q : Qs) (e : Nat) : Qs := match qAt q e with
  | [] => q
  | x :: r => if (doJ ((E es e).parts.getD x.2.part (0, none)).1 x.2).part = (E es e).parts.length then q.set e r else q.set e ((x.1, doJ ((E es e).parts.getD x.2.part (0, none)).1 x.2) :: r)
/-! ### promises -/
def spJobInit (C : Addr) : Sp := fun vs H Q _ => ∃ (p dx : Addr) (e n c pa : V), vs = [.ref p, e, n, c, pa] ∧ H p = some (.ins C dx []) ∧
  Q .non (upd H p (.ins C dx [("errand", e), ("number", n), ("come", c), ("parts", pa), ("part", .int 0), ("spent", .int 0)]))
def spJobDo (K : PySem.W.Frag) (C : Addr) : Sp := fun vs H Q _ => ∃ (p dx : Addr) (e : Nat) (j : Jb) (pa : V) (ps : List PyData) (len : Int) (tl : PyData), vs = [.ref p] ∧ H p = some (.ins C dx (jobFs e j pa)) ∧ Dp K H pa (.tuple ps) ∧ ps[j.part]? = some (.tuple [.int len, tl]) ∧
  Q .non (upd H p (.ins C dx (jobFs e (doJ len j) pa)))
/-- what the hand does is told: none, or the first job of an errand -/
def Chosen (es : List Er) (rs : List Nat) (l : Str) (p : Addr) (q : Qs) (t : Int) (o : Option Nat) : Prop := match o with
  | none => m_Hand_choose [handD p es rs l q, .int t] = .ok .none
  | some e => e < q.length ∧ ∃ x r, qAt q e = x :: r ∧ m_Hand_choose [handD p es rs l q, .int t] = .ok (jobD es e x) ∧ x.2.part < (E es e).parts.length
def spStep (K : PySem.W.Frag) (C : Addr) : Sp := fun vs H Q _ => ∃ (Bh : Hp) (A : List Addr) (p : Addr) (es : List Er) (rs : List Nat) (l : Str) (q : Qs) (t : Int) (o : Option Nat), vs = [.ref p, .int t] ∧ HandAt K Bh H A p es rs l q ∧ Chosen es rs l p q t o ∧
  match o with
  | none => ∀ H', Same H H' → Q .non H'
  | some e => ∀ H' x r (CJ dx : Addr) (pa : V), qAt q e = x :: r → HandAt K Bh H' A p es rs l (workQ es q e) → Same (cut A H) (cut A H') → ClsAt K "Job" CJ → H' x.1 = some (.ins CJ dx (jobFs e (doJ ((E es e).parts.getD x.2.part (0, none)).1 x.2) pa)) → Dp K (cut A H') pa (partsD es e) → x.1 ∈ A → Q (.ref x.1) H'
end L2.DL
set_option maxHeartbeats 2000000
namespace L2.DL
open PySem PySem.Spec PyProof.Rows

theorem encHs_at (es : List Er) (rs : List Nat) {t : Int} (h0 : 0 ≤ t) (h1 : t ≤ 3) : atI (encHs es rs) t = some (encH (hgt es rs t)) := by
  obtain h | h | h | h : t = 0 ∨ t = 1 ∨ t = 2 ∨ t = 3 := by omega
  all_goals
    subst h
    simp [encHs, List.range_succ]
theorem hgt_some {es : List Er} {rs : List Nat} {l : Nat} {p : Int × Option Int} {t : Int} (hl : l ∈ rs) (hp : p ∈ (E es l).parts) (ht : p.2 = some t) : ∃ h, hgt es rs t = some h := by
  obtain ⟨k, hk, e⟩ := List.getElem_of_mem hl
  have : ((List.range rs.length).find? fun k => hasTool (E es (rkAt rs k)) t).isSome := by
    rw [List.find?_isSome]
    refine ⟨k, List.mem_range.mpr hk, ?_⟩
    have e2 : rkAt rs k = l := by
      unfold rkAt
      rw [List.getD_eq_getElem?_getD, List.getElem?_eq_getElem hk]
      exact e
    rw [e2]
    unfold hasTool
    exact List.any_eq_true.mpr ⟨p, hp, by rw [ht]; simp⟩
  exact Option.isSome_iff_exists.mp this
/-- a part by which an errand at place k or higher can be held -/
def holdP (es : List Er) (rs : List Nat) (k : Nat) (p : Int × Option Int) : Bool := match p.2 with
  | none => false
  | some t => match hgt es rs t with
    | some h => decide (h ≤ k)
    | none => false
theorem hold_test {es : List Er} {rs : List Nat} (he : FineEs es) {k l : Nat} {p : Int × Option Int} (hl : l ∈ rs) (hp : p ∈ (E es l).parts) {x0 x1 x2 x5 x6 x7 : Option PyData} :
    teAnd (eB (eOp oIsNot (eVar 8) (eC .none))) (eB (eOp oLe (eOp oIx (eVar 4) (eVar 8)) (eVar 3))) [x0, x1, x2, some (.int (k : Int)), some (.list (encHs es rs)), x5, x6, x7, some (encO p.2)] = .ok (holdP es rs k p) := by
  unfold holdP
  cases e : p.2 with
  | none => simp [encO, asB]
  | some t =>
    obtain ⟨h, eh⟩ := hgt_some hl hp e
    have := ((he.at l).part p hp).2.2 t e
    simp [encO, asB, encHs_at es rs this.1 this.2, eh, encH]
def lm1 (p : Int × Option Int) : Int := p.1 - 1
def hp (es : List Er) (rs : List Nat) (k l : Nat) : List Int := ((E es l).parts.filter (holdP es rs k)).map lm1
def hold (es : List Er) (rs : List Nat) (n : Nat) : Int := ((rs.drop (rs.idxOf n + 1)).flatMap (hp es rs (rs.idxOf n))).foldl max 0
theorem hp_len {es : List Er} (he : FineEs es) (rs : List Nat) (k l : Nat) : (hp es rs k l).length ≤ 4 := by
  unfold hp
  rw [List.length_map]
  exact Nat.le_trans (List.length_filter_le _ _) (he.at l).parts.2
theorem hps_len {es : List Er} (he : FineEs es) (rs : List Nat) (k : Nat) : ∀ ls : List Nat, (ls.flatMap (hp es rs k)).length ≤ 4 * ls.length
  | [] => by simp
  | l :: ls => by
    have := hps_len he rs k ls
    have := hp_len he rs k l
    simp only [List.flatMap_cons, List.length_append, List.length_cons]
    omega
@[simp] theorem items_parts (e : Er) : items (.tuple (e.parts.map encP)) = .ok (e.parts.map encP) := rfl
theorem hold_of_ok {es : List Er} {rs : List Nat} (he : FineEs es) (hr : Rk es rs) {n : Nat} (hn : n ∈ rs) : m_hold_of [encEs es, encR rs, encN n] = .ok (.int (hold es rs n)) := by
  have hl := hr.len
  have hk : rs.idxOf n < rs.length := List.idxOf_lt_length_of_mem hn
  have hidx := index_ok hn
  have hsl : oSlice (encR rs) (some ((rs.idxOf n : Nat) + 1 : Int)) none = some (encR (rs.drop (rs.idxOf n + 1))) := slice_from (n := rs.idxOf n + 1) (by omega)
  simp only [m_hold_of, runD_ap, encN]
  generalize hK : rs.idxOf n = k at *
  have hh := heights_of_ok he hr
  simp [-forS_ap, hidx, hh, hsl]
  refine nx_toR (for_nx encN (fun pre ρ => ∃ a b c, ρ = [some (encEs es), some (encR rs), some (.int (n : Int)), some (.int (k : Int)), some (.list (encHs es rs)), some (.list ((0 :: pre.flatMap (hp es rs k)).map .int)), a, b, c]) (rs.drop (k + 1)) ?_ ⟨_, _, _, rfl⟩ fun pre a post ρ ha ⟨x, y, z, hρ⟩ => ?_) fun ρ ⟨a, b, c, hρ⟩ => ?_
  · simp [hsl]
  · subst hρ
    have hm : a ∈ rs := List.mem_of_mem_drop (i := k + 1) (by rw [ha]; simp)
    have hpre : pre.length ≤ 6 := by
      have := congrArg List.length ha
      simp at this
      omega
    refine ⟨_, rfl, ?_⟩
    refine nx_mono (for_nx encP (fun qs ρ => ∃ b c, ρ = [some (encEs es), some (encR rs), some (.int (n : Int)), some (.int (k : Int)), some (.list (encHs es rs)), some (.list (((0 :: pre.flatMap (hp es rs k)) ++ (qs.filter (holdP es rs k)).map lm1).map .int)), some (encN a), b, c]) (E es a).parts ?_ ⟨y, z, by simp⟩ fun qs p q ρ hq ⟨b, c, hρ⟩ => ?_) fun ρ ⟨b, c, hρ⟩ => ⟨some (encN a), b, c, ?_⟩
    · simp [encN, oIx_encEs (hr.lt a hm)]
    · subst hρ
      have hmp : p ∈ (E es a).parts := by rw [hq]; simp
      refine ⟨[some (encEs es), some (encR rs), some (.int (n : Int)), some (.int (k : Int)), some (.list (encHs es rs)), some (.list (((0 :: pre.flatMap (hp es rs k)) ++ (qs.filter (holdP es rs k)).map lm1).map .int)), some (encN a), some (.int p.1), some (encO p.2)], by simp [encP], ?_⟩
      rw [ifS_ap, hold_test he hm hmp, toS_ok]
      have hql : qs.length ≤ 4 := by
        have h4 := (he.at a).parts.2
        rw [hq] at h4
        simp at h4
        omega
      have h1 := hps_len he rs k pre
      have h2 : (qs.filter (holdP es rs k)).length ≤ 4 := Nat.le_trans (List.length_filter_le _ _) hql
      have h3 : (pre.flatMap (hp es rs k)).length + (qs.filter (holdP es rs k)).length + 1 < 16777216 := by omega
      cases hb : holdP es rs k p with
      | false =>
        refine Nx.of ⟨some (.int p.1), some (encO p.2), ?_⟩
        rw [List.filter_append, List.filter_cons_of_neg (by simp [hb])]
        simp
      | true =>
        rw [List.filter_append, List.filter_cons_of_pos hb]
        generalize pre.flatMap (hp es rs k) = A at *
        generalize qs.filter (holdP es rs k) = B at *
        simp
        rw [if_pos (by omega)]
        exact Nx.of ⟨_, _, rfl⟩
    · subst hρ
      rw [List.flatMap_append, List.flatMap_singleton]
      rfl
  · subst hρ
    have : oMaxL (.list ((0 :: (rs.drop (k + 1)).flatMap (hp es rs k)).map .int)) = some (.int (hold es rs n)) := by
      unfold oMaxL
      dsimp only
      rw [toInts_map]
      unfold hold
      rw [hK]
      rfl
    simp at this
    simp [this]
end L2.DL
set_option maxHeartbeats 2000000
namespace L2.DL
open PySem PySem.Spec PyProof.Rows

/-! ### the hand's region changed -/
theorem qAt_set {q : Qs} {e : Nat} {js : List (Addr × Jb)} (i : Nat) (he : e < q.length) : qAt (q.set e js) i = if i = e then js else qAt q i := by
  unfold qAt
  rw [List.getD_eq_getElem?_getD, List.getD_eq_getElem?_getD]
  by_cases h : i = e
  · subst h
    rw [if_pos rfl, List.getElem?_set_self he]
    rfl
  · rw [if_neg h, List.getElem?_set_ne (fun z => h z.symm)]
theorem qAt_mem {q : Qs} {e : Nat} {x : Addr × Jb} (h : x ∈ qAt q e) : x.1 ∈ addrs q := by
  unfold qAt at h
  rw [List.getD_eq_getElem?_getD] at h
  cases e1 : q[e]? with
  | none => rw [e1] at h; simp at h
  | some js =>
    rw [e1] at h
    exact List.mem_flatMap.mpr ⟨js, List.mem_of_getElem? e1, List.mem_map.mpr ⟨x, by simpa using h, rfl⟩⟩
theorem qAt_split {q : Qs} {e : Nat} (he : e < q.length) : ∃ a b, q = a ++ qAt q e :: b ∧ a.length = e := by
  refine ⟨q.take e, q.drop (e + 1), ?_, by rw [List.length_take]; omega⟩
  have : qAt q e = q[e] := by
    unfold qAt
    rw [List.getD_eq_getElem?_getD, List.getElem?_eq_getElem he]
    rfl
  rw [this, ← List.drop_eq_getElem_cons he, List.take_append_drop]
theorem qAt_ne {q : Qs} {e e' : Nat} {x y : Addr × Jb} (nd : (addrs q).Nodup) (he : e < q.length) (h : x ∈ qAt q e) (h' : y ∈ qAt q e') (ne : e' ≠ e) : y.1 ≠ x.1 := by
  obtain ⟨a, b, eq, el⟩ := qAt_split he
  have hy : y ∈ (a.flatten ++ b.flatten) := by
    have : qAt q e' ∈ a ∨ qAt q e' ∈ b := by
      have hm : qAt q e' ∈ q := by
        unfold qAt at h' ⊢
        rw [List.getD_eq_getElem?_getD] at h' ⊢
        cases e1 : q[e']? with
        | none => rw [e1] at h'; simp at h'
        | some js => simpa using List.mem_of_getElem? e1
      have hlt : e' < q.length := by
        rcases Nat.lt_or_ge e' q.length with z | z
        · exact z
        · unfold qAt at h'
          rw [List.getD_eq_getElem?_getD, List.getElem?_eq_none z] at h'
          simp at h'
      have hq' : q[e']? = some (qAt q e') := by
        unfold qAt
        rw [List.getD_eq_getElem?_getD, List.getElem?_eq_getElem hlt]
        rfl
      generalize qAt q e' = zz at hq' ⊢
      rcases Nat.lt_or_gt_of_ne ne with z | z
      · left
        rw [eq, List.getElem?_append_left (by omega)] at hq'
        exact List.mem_of_getElem? hq'
      · right
        rw [eq, List.getElem?_append_right (by omega)] at hq'
        have e2 : e' - a.length = (e' - a.length - 1) + 1 := by omega
        rw [e2, List.getElem?_cons_succ] at hq'
        exact List.mem_of_getElem? hq'
    rcases this with z | z
    · exact List.mem_append_left _ (List.mem_flatten.mpr ⟨_, z, h'⟩)
    · exact List.mem_append_right _ (List.mem_flatten.mpr ⟨_, z, h'⟩)
  intro z
  have nd' : (a.flatMap (fun js => js.map (·.1)) ++ ((qAt q e).map (·.1) ++ b.flatMap fun js => js.map (·.1))).Nodup := by
    have : addrs q = a.flatMap (fun js => js.map (·.1)) ++ ((qAt q e).map (·.1) ++ b.flatMap fun js => js.map (·.1)) := by
      unfold addrs
      conv => lhs; rw [eq]
      rw [List.flatMap_append, List.flatMap_cons]
    rw [← this]
    exact nd
  rw [List.nodup_append] at nd'
  obtain ⟨_, n2, n3⟩ := nd'
  rw [List.nodup_append] at n2
  obtain ⟨_, _, n4⟩ := n2
  have hx1 : x.1 ∈ (qAt q e).map (·.1) := List.mem_map.mpr ⟨x, h, rfl⟩
  rcases List.mem_append.mp hy with w | w
  · obtain ⟨js, hj, hyj⟩ := List.mem_flatten.mp w
    exact n3 y.1 (List.mem_flatMap.mpr ⟨js, hj, List.mem_map.mpr ⟨y, hyj, rfl⟩⟩) x.1 (List.mem_append_left _ hx1) z
  · obtain ⟨js, hj, hyj⟩ := List.mem_flatten.mp w
    exact n4 x.1 hx1 y.1 (List.mem_flatMap.mpr ⟨js, hj, List.mem_map.mpr ⟨y, hyj, rfl⟩⟩) z.symm
theorem addrs_set {q : Qs} {e : Nat} {js : List (Addr × Jb)} (he : e < q.length) (h : js.map (·.1) = (qAt q e).map (·.1)) : addrs (q.set e js) = addrs q := by
  obtain ⟨a, b, eq, el⟩ := qAt_split he
  have e1 : q.set e js = a ++ js :: b := by
    rw [eq]
    rw [List.set_append_right _ _ (by omega)]
    have : e - a.length = 0 := by omega
    rw [this]
    rfl
  rw [e1]
  unfold addrs
  conv => rhs; rw [eq]
  rw [List.flatMap_append, List.flatMap_cons, List.flatMap_append, List.flatMap_cons, h]
theorem addrs_sub {q : Qs} {e : Nat} {js : List (Addr × Jb)} (he : e < q.length) (h : (js.map (·.1)).Sublist ((qAt q e).map (·.1))) : (addrs (q.set e js)).Sublist (addrs q) := by
  obtain ⟨a, b, eq, el⟩ := qAt_split he
  have e1 : q.set e js = a ++ js :: b := by
    rw [eq]
    rw [List.set_append_right _ _ (by omega)]
    have : e - a.length = 0 := by omega
    rw [this]
    rfl
  rw [e1]
  unfold addrs
  conv => rhs; rw [eq]
  rw [List.flatMap_append, List.flatMap_cons, List.flatMap_append, List.flatMap_cons]
  exact (List.Sublist.refl _).append (h.append (List.Sublist.refl _))
section
variable {K : PySem.W.Frag} {Bh H H' : Hp} {A : List Addr} {p : Addr} {es : List Er} {rs : List Nat} {l : Str} {q : Qs} {CH CJ dx aE aR aH aQ : Addr} {rows : List Addr} {e : Nat} {x : Addr × Jb} {r : List (Addr × Jb)}
theorem rows_mem (h : HandIn K Bh H A p es rs l q CH CJ dx aE aR aH aQ rows) (he : e < q.length) : rows.getD e 0 ∈ rows := by
  rw [List.getD_eq_getElem?_getD, List.getElem?_eq_getElem (by rw [h.len]; exact he)]
  exact List.getElem_mem _
/-- the first job of e has got other numbers -/
theorem HandIn.work (h : HandIn K Bh H A p es rs l q CH CJ dx aE aR aH aQ rows) (he : e < q.length) (hx : qAt q e = x :: r) {dj : Addr} {pa : V} {j' : Jb} (h1 : H x.1 = some (.ins CJ dj (jobFs e x.2 pa))) (h2 : Dp K (cut A H) pa (partsD es e)) :
    HandIn K Bh (upd H x.1 (.ins CJ dj (jobFs e j' pa))) A p es rs l (q.set e ((x.1, j') :: r)) CH CJ dx aE aR aH aQ rows := by
  have hxm : x ∈ qAt q e := by rw [hx]; exact List.mem_cons_self
  have xA : x.1 ∈ A := h.sub.2.2.2 _ (qAt_mem hxm)
  have ec : cut A (upd H x.1 (.ins CJ dj (jobFs e j' pa))) = cut A H := cut_upd_in xA
  have np : p ≠ x.1 := fun z => by
    have q1 := h.at_
    rw [z, h1] at q1
    cases q1
  have nl : ∀ {a xs}, H a = some (.lst xs) → a ≠ x.1 := fun {a xs} q1 z => by
    rw [z, h1] at q1
    cases q1
  refine ⟨h.cH, h.cJ, by rw [upd_ne np]; exact h.at_, by rw [ec]; exact h.base, h.dE, h.dR, h.dH, by rw [upd_ne (nl h.qs)]; exact h.qs, by rw [List.length_set]; exact h.len, fun i hi => ?_, fun i hi y hy => ?_, h.nd, ?_, ?_, updAll h.all⟩
  · rw [List.length_set] at hi
    rw [upd_ne (nl (h.row i hi)), h.row i hi, qAt_set i he]
    by_cases z : i = e
    · subst z
      rw [if_pos rfl, hx]
      rfl
    · rw [if_neg z]
  · rw [List.length_set] at hi
    rw [qAt_set i he] at hy
    by_cases z : i = e
    · subst z
      rw [if_pos rfl] at hy
      rcases List.mem_cons.mp hy with w | w
      · subst w
        exact ⟨dj, pa, upd_same, by rw [ec]; exact h2⟩
      · obtain ⟨d1, p1, g1, g2⟩ := h.job i hi y (by rw [hx]; exact List.mem_cons_of_mem _ w)
        have ny : y.1 ≠ x.1 := by
          have nd := h.ndj
          obtain ⟨a, b, eq, el⟩ := qAt_split hi
          have sub : ((qAt q i).map (·.1)).Sublist (addrs q) := by
            unfold addrs
            conv => rhs; rw [eq]
            rw [List.flatMap_append, List.flatMap_cons]
            exact (List.sublist_append_left _ _).trans (List.sublist_append_right _ _)
          have nd2 := nd.sublist sub
          rw [hx, List.map_cons, List.nodup_cons] at nd2
          exact fun q1 => nd2.1 (by rw [← q1]; exact List.mem_map.mpr ⟨y, w, rfl⟩)
        exact ⟨d1, p1, by rw [upd_ne ny]; exact g1, by rw [ec]; exact g2⟩
    · rw [if_neg z] at hy
      obtain ⟨d1, p1, g1, g2⟩ := h.job i hi y hy
      exact ⟨d1, p1, by rw [upd_ne (qAt_ne h.ndj he hxm hy z)]; exact g1, by rw [ec]; exact g2⟩
  · rw [addrs_set he (by rw [hx]; rfl)]
    exact h.ndj
  · rw [addrs_set he (by rw [hx]; rfl)]
    exact h.sub
/-- the first job of e is gone -/
theorem HandIn.pop (h : HandIn K Bh H A p es rs l q CH CJ dx aE aR aH aQ rows) (he : e < q.length) (hx : qAt q e = x :: r) :
    HandIn K Bh (upd H (rows.getD e 0) (.lst (r.map fun x => V.ref x.1))) A p es rs l (q.set e r) CH CJ dx aE aR aH aQ rows := by
  have hrm := rows_mem h he
  have rA : rows.getD e 0 ∈ A := h.sub.2.2.1 _ hrm
  have hr := h.row e he
  have ec : cut A (upd H (rows.getD e 0) (.lst (r.map fun x => V.ref x.1))) = cut A H := cut_upd_in rA
  have ni : ∀ {a c d f}, H a = some (.ins c d f) → a ≠ rows.getD e 0 := fun {a c d f} q1 z => by
    rw [z, hr] at q1
    cases q1
  have nq : aQ ≠ rows.getD e 0 := fun z => (List.nodup_cons.mp h.nd).1 (by rw [z]; exact hrm)
  have sub : ((r.map (·.1))).Sublist ((qAt q e).map (·.1)) := by
    rw [hx, List.map_cons]
    exact List.sublist_cons_self _ _
  refine ⟨h.cH, h.cJ, by rw [upd_ne (ni h.at_)]; exact h.at_, by rw [ec]; exact h.base, h.dE, h.dR, h.dH, by rw [upd_ne nq]; exact h.qs, by rw [List.length_set]; exact h.len, fun i hi => ?_, fun i hi y hy => ?_, h.nd, h.ndj.sublist (addrs_sub he sub), ?_, updAll h.all⟩
  · rw [List.length_set] at hi
    rw [qAt_set i he]
    by_cases z : i = e
    · subst z
      rw [if_pos rfl, upd_same]
    · rw [if_neg z, upd_ne, h.row i hi]
      intro w
      have n1 := (List.nodup_cons.mp h.nd).2
      have i1 : i < rows.length := by rw [h.len]; exact hi
      have i2 : e < rows.length := by rw [h.len]; exact he
      have w' : rows[i] = rows[e] := by
        rw [List.getD_eq_getElem?_getD, List.getD_eq_getElem?_getD, List.getElem?_eq_getElem i1, List.getElem?_eq_getElem i2] at w
        exact w
      have pw := List.pairwise_iff_getElem.mp n1
      rcases Nat.lt_or_gt_of_ne z with z | z
      · exact pw i e i1 i2 z w'
      · exact pw e i i2 i1 z w'.symm
  · rw [List.length_set] at hi
    rw [qAt_set i he] at hy
    have hy' : y ∈ qAt q i := by
      by_cases z : i = e
      · subst z
        rw [if_pos rfl] at hy
        rw [hx]
        exact List.mem_cons_of_mem _ hy
      · rw [if_neg z] at hy
        exact hy
    obtain ⟨d1, p1, g1, g2⟩ := h.job i hi y hy'
    exact ⟨d1, p1, by rw [upd_ne (ni g1)]; exact g1, by rw [ec]; exact g2⟩
  · obtain ⟨s1, s2, s3, s4⟩ := h.sub
    exact ⟨s1, s2, s3, fun a ha => s4 a ((addrs_sub he sub).subset ha)⟩
end
/-! ### the fields of a hand -/
theorem hand_no (es : List Er) (rs : List Nat) (l : Str) (q : Qs) (m : Str) (h : [("errands" : Str), "ranks", "lending", "heights", "queues"].all (fun x => decide (x ≠ m)) = true) : fldD m (handKv es rs l q) = none := by
  simp only [List.all_cons, List.all_nil, Bool.and_true, Bool.and_eq_true, decide_eq_true_eq] at h
  obtain ⟨h1, h2, h3, h4, h5⟩ := h
  simp [handKv, fldD, h1, h2, h3, h4, h5]
theorem hand_noF {aE aR aH aQ : Addr} {l m : Str} (h : [("errands" : Str), "ranks", "lending", "heights", "queues"].all (fun x => decide (x ≠ m)) = true) : (handFs aE aR aH aQ l).lookup m = none := by
  simp only [List.all_cons, List.all_nil, Bool.and_true, Bool.and_eq_true, decide_eq_true_eq] at h
  obtain ⟨h1, h2, h3, h4, h5⟩ := h
  have k : ∀ {x : Str}, x ≠ m → (m == x) = false := fun h => by simpa using fun z => h z.symm
  simp [handFs, List.lookup_cons, k h1, k h2, k h3, k h4, k h5]
theorem job_no (es : List Er) (e : Nat) (j : Jb) (m : Str) (h : [("errand" : Str), "number", "come", "parts", "part", "spent"].all (fun x => decide (x ≠ m)) = true) : fldD m (jobKv es e j) = none := by
  simp only [List.all_cons, List.all_nil, Bool.and_true, Bool.and_eq_true, decide_eq_true_eq] at h
  obtain ⟨h1, h2, h3, h4, h5, h6⟩ := h
  simp [jobKv, fldD, h1, h2, h3, h4, h5, h6]
theorem job_noF {e : Nat} {j : Jb} {pa : V} {m : Str} (h : [("errand" : Str), "number", "come", "parts", "part", "spent"].all (fun x => decide (x ≠ m)) = true) : (jobFs e j pa).lookup m = none := by
  simp only [List.all_cons, List.all_nil, Bool.and_true, Bool.and_eq_true, decide_eq_true_eq] at h
  obtain ⟨h1, h2, h3, h4, h5, h6⟩ := h
  have k : ∀ {x : Str}, x ≠ m → (m == x) = false := fun h => by simpa using fun z => h z.symm
  simp [jobFs, List.lookup_cons, k h1, k h2, k h3, k h4, k h5, k h6]
theorem hl_queues (aE aR aH aQ : Addr) (l : Str) : (handFs aE aR aH aQ l).lookup ("queues" : Str) = some (.ref aQ) := by
  have h1 : (("queues" : Str) == "errands") = false := by decide +kernel
  have h2 : (("queues" : Str) == "ranks") = false := by decide +kernel
  have h3 : (("queues" : Str) == "lending") = false := by decide +kernel
  have h4 : (("queues" : Str) == "heights") = false := by decide +kernel
  simp [handFs, List.lookup_cons, h1, h2, h3, h4]
theorem fld_spent (es : List Er) (e : Nat) (j : Jb) : fldD "spent" (jobKv es e j) = some (.int (j.spent : Int)) := by
  simp [jobKv, fldD, n_errand_spent, n_number_spent, n_come_spent, n_parts_spent, n_part_spent]
theorem fld_part (es : List Er) (e : Nat) (j : Jb) : fldD "part" (jobKv es e j) = some (.int (j.part : Int)) := by
  simp [jobKv, fldD, n_errand_part, n_number_part, n_come_part, n_parts_part]
theorem fld_parts (es : List Er) (e : Nat) (j : Jb) : fldD "parts" (jobKv es e j) = some (partsD es e) := by
  simp [jobKv, fldD, n_errand_parts, n_number_parts, n_come_parts]
theorem fld_come (es : List Er) (e : Nat) (j : Jb) : fldD "come" (jobKv es e j) = some (.int j.come) := by
  simp [jobKv, fldD, n_errand_come, n_number_come]
theorem fld_number (es : List Er) (e : Nat) (j : Jb) : fldD "number" (jobKv es e j) = some (.int (j.num : Int)) := by
  simp [jobKv, fldD, n_errand_number]
theorem fld_errand (es : List Er) (e : Nat) (j : Jb) : fldD "errand" (jobKv es e j) = some (.int (e : Int)) := by
  simp [jobKv, fldD]
theorem fld_queues (es : List Er) (rs : List Nat) (l : Str) (q : Qs) : fldD "queues" (handKv es rs l q) = some (.list (qD es q)) := by
  simp [handKv, fldD, n_errands_queues, n_ranks_queues, n_lending_queues, n_heights_queues]
theorem fld_heights (es : List Er) (rs : List Nat) (l : Str) (q : Qs) : fldD "heights" (handKv es rs l q) = some (.list (encHs es rs)) := by
  simp [handKv, fldD, n_errands_heights, n_ranks_heights, n_lending_heights]
theorem fld_lending (es : List Er) (rs : List Nat) (l : Str) (q : Qs) : fldD "lending" (handKv es rs l q) = some (.str l) := by
  simp [handKv, fldD, n_errands_lending, n_ranks_lending]
theorem fld_ranks (es : List Er) (rs : List Nat) (l : Str) (q : Qs) : fldD "ranks" (handKv es rs l q) = some (encR rs) := by
  simp [handKv, fldD, n_errands_ranks]
theorem is_done_ok (es : List Er) (e : Nat) (x : Addr × Jb) : m_Job_is_done [jobD es e x] = .ok (.bool (decide (x.2.part = (E es e).parts.length))) := by
  simp only [m_Job_is_done, runD_ap]
  simp [startD, eFld, jobD, insD_tag, fld_part, fld_parts, partsD, oLen]
  by_cases h : x.2.part = (E es e).parts.length
  · simp [h]
  · simp [h]
    omega
theorem jobD_addr {es : List Er} {e : Nat} {x : Addr × Jb} {K : PySem.W.Frag} {H : Hp} {v : V} (h : Dp K H v (jobD es e x)) : v = .ref x.1 := by
  obtain ⟨a, dx, C, fs, rfl, e1, _, _, _⟩ := insD_of h (insD_tag _ _ _)
  have e2 : insTag "Job" x.1 = insTag "Job" a := by
    have := PyData.dict.inj e1
    exact (List.cons.inj this).1
  unfold insTag at e2
  have e3 := (Prod.mk.inj e2).2
  have e4 := PyData.tuple.inj e3
  have e5 := (List.cons.inj (List.cons.inj e4).2).1
  have e6 := PyData.int.inj e5
  have : x.1 = a := Int.ofNat.inj e6
  rw [this]
theorem seqIx0 {n : Nat} (h : 0 < n) : seqIndex? 0 n = some 0 := by
  unfold seqIndex?
  simp
  omega
end L2.DL
set_option maxHeartbeats 2000000
namespace L2.DL
open PySem PySem.Spec PyProof.Rows

/-! ### data of tuples only -/
mutual
theorem dp_tups {K : PySem.W.Frag} {H H' : Hp} (s : ∀ b o xs, H b = some (.frz o (.tup xs)) → H' b = some (.frz o (.tup xs))) : ∀ {v : V} {d : PyData}, Dp K H v d → noList d = true → Dp K H' v d
  | _, _, .non, _ => .non
  | _, _, .bl b, _ => .bl b
  | _, _, .int i, _ => .int i
  | _, _, .str x, _ => .str x
  | _, _, .lst _ _, n => by cases n
  | _, _, .dic _ _, n => by cases n
  | _, _, .ins _ _ _, n => by cases n
  | _, _, .tup h a, n => .tup (by
      rcases h with ⟨o, h, d⟩ | h
      · exact .inl ⟨o, s _ _ _ h, d⟩
      · exact .inr h) (dp_tupsA s a n)
theorem dp_tupsA {K : PySem.W.Frag} {H H' : Hp} (s : ∀ b o xs, H b = some (.frz o (.tup xs)) → H' b = some (.frz o (.tup xs))) : ∀ {vs : List V} {ds : List PyData}, DpAll K H vs ds → noLists ds = true → DpAll K H' vs ds
  | _, _, .nil, _ => .nil
  | _, _, .cons h t, n => by
    rw [noLists_cons, Bool.and_eq_true] at n
    exact .cons (dp_tups s h n.1) (dp_tupsA s t n.2)
end
theorem noLists_map {α : Type} {f : α → PyData} (h : ∀ a, noList (f a) = true) : ∀ xs : List α, noLists (xs.map f) = true
  | [] => rfl
  | x :: r => by rw [List.map_cons, noLists_cons, h x, noLists_map h r]; rfl
theorem noList_encO (o : Option Int) : noList (encO o) = true := by cases o <;> rfl
theorem noList_encP (p : Int × Option Int) : noList (encP p) = true := by simp [encP, noList_encO]
theorem noList_parts (es : List Er) (e : Nat) : noList (partsD es e) = true := by
  unfold partsD
  rw [noList_tuple]
  exact noLists_map noList_encP _
theorem noList_encE (e : Er) : noList (encE e) = true := by simp [encE, noLists_map noList_encP]
theorem noList_encEs (es : List Er) : noList (encEs es) = true := by
  unfold encEs
  rw [noList_tuple]
  exact noLists_map noList_encE _

/-! ### a row of jobs made -/
/-- the jobs of comings, none of them begun -/
def jobs0 (cs : List Int) : List Jb := (List.range cs.length).map fun k => ⟨k, cs.getD k 0, 0, 0⟩
theorem passF {P : Program} {w : World} {X : Cx} (hP : X.prog = P) : Passes (L2.CX P w) X (fun _ _ _ => False) := fun _ _ _ _ _ _ _ h => by
  obtain ⟨_, _, _, _, _, _, _, _, _, _, _, _, z⟩ := h
  exact z.elim
theorem enumFrom_at {ds : List PyData} {k : Nat} {d : PyData} (h : (enumFrom 0 ds)[k]? = some d) : ∃ x, ds[k]? = some x ∧ d = .tuple [.int (k : Int), x] := by
  have hk : k < ds.length := by
    have := (List.getElem?_eq_some_iff.mp h).1
    rwa [enumFrom_length] at this
  have q := enumFrom_get (i := 0) (List.getElem?_eq_getElem hk)
  rw [h] at q
  refine ⟨ds[k], List.getElem?_eq_getElem hk, ?_⟩
  rw [Option.some.inj q, Nat.zero_add]
theorem row_made {K : PySem.W.Frag} {mg : Str → Option Value} {W : WX} {it : Itr'} {ar : Ar} {σ : St} {H : Hp} {Q : VK} {ρ : Env} {es : List Er} {e i j : Nat} {cs : List Int} {CJ : Addr} (hρ : DpS K H σ ρ) (hit : it ρ = .ok (enumFrom 0 (cs.map PyData.int))) (hlen : cs.length ≤ 60)
    (har : ∀ (k : Nat) (c : Int), ar (setAll [i, j] [.int (k : Int), .int c] (wipeD ρ [i, j])) = .ok [.int (e : Int), .int (k : Int), .int c, partsD es e])
    (q : ∀ (D : Addr) (H' : Hp) (js : List (Addr × Jb)), H D = none → js.map (·.2) = jobs0 cs → (js.map (·.1)).Nodup → (∀ x ∈ js, H x.1 = none) → Same H (cut (D :: js.map (·.1)) H') → H' D = some (.lst (js.map fun x => V.ref x.1)) →
      (∀ x ∈ js, ∃ dx pa, H' x.1 = some (.ins CJ dx (jobFs e x.2 pa)) ∧ Dp K H' pa (partsD es e)) → Q (.ref D) H') :
    tLc (tDI K mg W it) (tgG K (.tup [i, j])) (tDT K mg W0 teYes) (tMake CJ (spJobInit CJ) [] (fun _ _ _ => False) (tDA K mg W0 4 ar)) [i, j] σ H Q := by
  refine ⟨ρ, hρ, ?_⟩
  rw [hit]
  intro J H1 s1 w D hD
  have hD0 : H D = none := s1.free hD
  have el : (enumFrom 0 (cs.map PyData.int)).length = cs.length := by rw [enumFrom_length, List.length_map]
  have hρ1 : DpS K H1 (wipe σ [i, j]) (wipeD ρ [i, j]) := dps_wipe (hρ.mono s1) _
  refine lc_it w.walk (fun n H' => ∃ js : List (Addr × Jb), js.map (·.2) = (jobs0 cs).take n ∧ (js.map (·.1)).Nodup ∧ (∀ x ∈ js, H1 x.1 = none) ∧ Same H1 (cut (D :: js.map (·.1)) H') ∧ H' D = some (.lst (js.map fun x => V.ref x.1)) ∧
      ∀ x ∈ js, ∃ dx pa, H' x.1 = some (.ins CJ dx (jobFs e x.2 pa)) ∧ Dp K H' pa (partsD es e)) ?_ ?_ ?_ ?_
  · refine ⟨[], rfl, List.nodup_nil, (by simp), fun b o hb => ?_, upd_same, (by simp)⟩
    have nb : b ≠ D := fun z => by rw [z, hD] at hb; cases hb
    rw [cut_out (by simpa using nb), upd_ne nb]
    exact hb
  · exact fun n H' _ ⟨js, _, _, _, s, _⟩ => s.trans cutSame
  · rintro n x H2 H3 hn ⟨js, h1, h2, h3, s2, hD2, h5⟩ ⟨d, hd, y⟩
    obtain ⟨c0, hc0, rfl⟩ := enumFrom_at hd
    rw [List.getElem?_map] at hc0
    have hnc : n < cs.length := by rw [el] at hn; exact hn
    rw [List.getElem?_eq_getElem hnc] at hc0
    cases hc0
    have s2' : Same H1 H2 := s2.trans cutSame
    obtain ⟨s3, hx⟩ := dp_yd s2' y
    have hρ3 : DpS K H3 (wipe σ [i, j]) (wipeD ρ [i, j]) := hρ1.mono (s2'.trans s3)
    refine tgG_of (Same.refl _) hx hρ3 (ρ' := setAll [i, j] [.int (n : Int), .int cs[n]] (wipeD ρ [i, j])) rfl fun σ2 o2 hρ2 => ⟨wipe_same (wipe_idem.trans o2), _, hρ2, ?_⟩
    intro H4 s4
    refine iteT ⟨_, hρ2.mono s4, ?_⟩
    rw [har]
    intro vs H5 hl s5 hvs x dx hx5 hdx5 ne
    have e5 : ∃ pa, vs = [.int (e : Int), .int (n : Int), .int cs[n], pa] ∧ Dp K H5 pa (partsD es e) := by
      cases hvs with
      | cons a1 t1 =>
        cases t1 with
        | cons a2 t2 =>
          cases t2 with
          | cons a3 t3 =>
            cases t3 with
            | cons a4 t4 =>
              cases t4
              exact ⟨_, by rw [dp_int a1, dp_int a2, dp_int a3], a4⟩
    obtain ⟨pa, rfl, hpa⟩ := e5
    have s25 : Same H2 H5 := (s3.trans s4).trans s5
    refine ⟨x, dx, _, _, _, pa, rfl, upd_same, rfl, ?_⟩
    rw [upd_upd]
    have e6 : ([("errand", V.int (e : Int)), ("number", .int (n : Int)), ("come", .int cs[n]), ("parts", pa), ("part", .int 0), ("spent", .int 0)] : List (Str × V)) = jobFs e ⟨n, cs[n], 0, 0⟩ pa := rfl
    rw [e6]
    have hD5 := s25 _ _ hD2
    have nDx : D ≠ x := fun z => by rw [z, hx5] at hD5; cases hD5
    have nDd : D ≠ dx := fun z => by rw [z, hdx5] at hD5; cases hD5
    have hjl : js.length = n := by
      have := congrArg List.length h1
      rw [List.length_map, List.length_take] at this
      unfold jobs0 at this
      rw [List.length_map, List.length_range] at this
      omega
    refine ⟨_, by rw [upd_ne nDx, upd_ne nDd]; exact hD5, by rw [List.length_map, hjl, sizeLine_eq]; omega, js ++ [(x, ⟨n, cs[n], 0, 0⟩)], ?_, ?_, ?_, ?_, ?_, ?_⟩
    · rw [List.map_append, h1]
      have : (jobs0 cs).take (n + 1) = (jobs0 cs).take n ++ [⟨n, cs[n], 0, 0⟩] := by
        rw [List.take_succ]
        congr 1
        unfold jobs0
        rw [List.getElem?_map, List.getElem?_range hnc]
        show [(⟨n, cs.getD n 0, 0, 0⟩ : Jb)] = _
        rw [List.getD_eq_getElem?_getD, List.getElem?_eq_getElem hnc]
        rfl
      rw [this]
      rfl
    · rw [List.map_append, List.nodup_append]
      refine ⟨h2, by simp, fun a ha b hb z => ?_⟩
      have hb' : b = x := by simpa using hb
      subst hb'
      subst z
      obtain ⟨y, hy, rfl⟩ := List.mem_map.mp ha
      obtain ⟨d1, p1, g1, _⟩ := h5 y hy
      have := s25 _ _ g1
      rw [hx5] at this
      cases this
    · intro y hy
      rcases List.mem_append.mp hy with w1 | w1
      · exact h3 y w1
      · have : y = (x, ⟨n, cs[n], 0, 0⟩) := by simpa using w1
        subst this
        exact (s2'.trans s25).free hx5
    · intro b o hb
      have c2 := s2 b o hb
      obtain ⟨k1, k2⟩ := cut_some c2
      have c5 := s25 _ _ k2
      have nbx : b ≠ x := fun z => by rw [z, hx5] at c5; cases c5
      have nbd : b ≠ dx := fun z => by rw [z, hdx5] at c5; cases c5
      have nbD : b ≠ D := fun z => k1 (by rw [z]; exact List.mem_cons_self)
      rw [cut_out, upd_ne nbD, upd_ne nbx, upd_ne nbd]
      · exact c5
      · rw [List.map_append]
        simp only [List.mem_cons, List.mem_append, List.map_cons, List.map_nil, List.not_mem_nil, or_false, not_or]
        exact ⟨nbD, fun z => k1 (List.mem_cons_of_mem _ z), nbx⟩
    · rw [upd_same, List.map_append]
      rfl
    · intro y hy
      have tups : ∀ b o xs, H5 b = some (.frz o (.tup xs)) → upd (upd (upd H5 dx (.own x)) x (.ins CJ dx (jobFs e ⟨n, cs[n], 0, 0⟩ pa))) D (.lst ((js.map fun x => V.ref x.1) ++ [.ref x])) b = some (.frz o (.tup xs)) := fun b o xs hb => by
        have n1 : b ≠ D := fun z => by rw [z, hD5] at hb; cases hb
        have n2 : b ≠ x := fun z => by rw [z, hx5] at hb; cases hb
        have n3 : b ≠ dx := fun z => by rw [z, hdx5] at hb; cases hb
        rw [upd_ne n1, upd_ne n2, upd_ne n3]
        exact hb
      rcases List.mem_append.mp hy with w1 | w1
      · obtain ⟨d1, p1, g1, g2⟩ := h5 y w1
        have g5 := s25 _ _ g1
        have n1 : y.1 ≠ D := fun z => by rw [z, hD5] at g5; cases g5
        have n2 : y.1 ≠ x := fun z => by rw [z, hx5] at g5; cases g5
        have n3 : y.1 ≠ dx := fun z => by rw [z, hdx5] at g5; cases g5
        exact ⟨d1, p1, by rw [upd_ne n1, upd_ne n2, upd_ne n3]; exact g5, dp_tups tups (dpMono s25 g2) (noList_parts es e)⟩
      · have : y = (x, ⟨n, cs[n], 0, 0⟩) := by simpa using w1
        subst this
        exact ⟨dx, pa, by rw [upd_ne nDx.symm, upd_same], dp_tups tups hpa (noList_parts es e)⟩
  · rintro H' ⟨js, h1, h2, h3, s2, hD2, h5⟩
    refine q D H' js hD0 (by rw [h1, el]; unfold jobs0; rw [List.take_of_length_le (by simp)]) h2 (fun x hx => s1.free (h3 x hx)) (s1.trans s2) hD2 h5

/-! ### a row more -/
section
variable {K : PySem.W.Frag} {Bh H H' H1 : Hp} {A : List Addr} {p : Addr} {es : List Er} {rs : List Nat} {l : Str} {q : Qs} {CH CJ dx aE aR aH aQ D : Addr} {rows : List Addr} {js : List (Addr × Jb)}
theorem HandIn.add (h : HandIn K Bh H A p es rs l q CH CJ dx aE aR aH aQ rows) (hA : ∀ a ∈ A, ∃ o, H a = some o ∧ ∀ b xs, o ≠ .frz b (.tup xs)) (hD : H D = none) (nd : (js.map (·.1)).Nodup) (hj : ∀ x ∈ js, H x.1 = none) (s : Same H (cut (D :: js.map (·.1)) H1)) (hDl : H1 D = some (.lst (js.map fun x => V.ref x.1)))
    (jobs : ∀ x ∈ js, ∃ dx pa, H1 x.1 = some (.ins CJ dx (jobFs q.length x.2 pa)) ∧ Dp K H1 pa (partsD es q.length)) :
    HandIn K Bh (upd H1 aQ (.lst (rows.map V.ref ++ [.ref D]))) (D :: js.map (·.1) ++ A) p es rs l (q ++ [js]) CH CJ dx aE aR aH aQ (rows ++ [D]) ∧
      (∀ a ∈ D :: js.map (·.1) ++ A, ∃ o, upd H1 aQ (.lst (rows.map V.ref ++ [.ref D])) a = some o ∧ ∀ b xs, o ≠ .frz b (.tup xs)) := by
  have fin : ∀ a ∈ D :: js.map (·.1) ++ A, ∃ o, upd H1 aQ (.lst (rows.map V.ref ++ [.ref D])) a = some o ∧ ∀ b xs, o ≠ .frz b (.tup xs) := by
    have up : ∀ {b o}, H b = some o → H1 b = some o := fun {b o} hb => (cut_some (s b o hb)).2
    intro a ha
    by_cases z : a = aQ
    · rw [z, upd_same]
      exact ⟨_, rfl, fun _ _ z => nomatch z⟩
    rw [upd_ne z]
    rcases List.mem_append.mp ha with z | z
    · rcases List.mem_cons.mp z with z | z
      · rw [z]
        exact ⟨_, hDl, fun _ _ z => nomatch z⟩
      · obtain ⟨y, hy, e⟩ := List.mem_map.mp z
        obtain ⟨d1, p1, g1, _⟩ := jobs y hy
        rw [← e]
        exact ⟨_, g1, fun _ _ z => nomatch z⟩
    · obtain ⟨o, e, n⟩ := hA a z
      exact ⟨o, up e, n⟩
  have up : ∀ {b o}, H b = some o → H1 b = some o := fun {b o} hb => (cut_some (s b o hb)).2
  have out : ∀ {b o}, H b = some o → b ∉ D :: js.map (·.1) := fun {b o} hb => (cut_some (s b o hb)).1
  have aQA : aQ ∈ A := h.sub.2.1
  have qAt_app : ∀ e, e < q.length → qAt (q ++ [js]) e = qAt q e := fun e he => by
    unfold qAt
    rw [List.getD_eq_getElem?_getD, List.getD_eq_getElem?_getD, List.getElem?_append_left he]
  have qAt_last : qAt (q ++ [js]) q.length = js := by
    unfold qAt
    rw [List.getD_eq_getElem?_getD, List.getElem?_append_right (Nat.le_refl _), Nat.sub_self]
    rfl
  have nQ : ∀ {b o}, H1 b = some o → (∀ xs, o ≠ .lst xs) → b ≠ aQ := fun {b o} hb n z => by
    rw [z, up h.qs] at hb
    cases hb
    exact n _ rfl
  have nDQ : D ≠ aQ := fun z => by
    have := h.qs
    rw [← z, hD] at this
    cases this
  have sc : Same (cut A H) (cut (D :: js.map (·.1) ++ A) (upd H1 aQ (.lst (rows.map V.ref ++ [.ref D])))) := fun b o hb => by
    obtain ⟨k1, k2⟩ := cut_some hb
    have nb : b ≠ aQ := fun z => k1 (by rw [z]; exact aQA)
    rw [cut_out, upd_ne nb]
    · exact up k2
    · rw [List.mem_append, not_or]
      exact ⟨out k2, k1⟩
  have rD : ∀ e, e < q.length → rows.getD e 0 ≠ D := fun e he z => by
    have := h.row e he
    rw [z, hD] at this
    cases this
  have rQ : ∀ e, e < q.length → rows.getD e 0 ≠ aQ := fun e he z => (List.nodup_cons.mp h.nd).1 (by rw [← z]; exact rows_mem h he)
  have rows_app : ∀ e, e < q.length → (rows ++ [D]).getD e 0 = rows.getD e 0 := fun e he => by
    rw [List.getD_eq_getElem?_getD, List.getD_eq_getElem?_getD, List.getElem?_append_left (by rw [h.len]; exact he)]
  have rows_last : (rows ++ [D]).getD q.length 0 = D := by
    rw [List.getD_eq_getElem?_getD, ← h.len, List.getElem?_append_right (Nat.le_refl _), Nat.sub_self]
    rfl
  have tups : ∀ b o xs, H1 b = some (.frz o (.tup xs)) → cut (D :: js.map (·.1) ++ A) (upd H1 aQ (.lst (rows.map V.ref ++ [.ref D]))) b = some (.frz o (.tup xs)) := fun b o xs hb => by
    rw [cut_out, upd_ne (nQ hb (fun _ z => nomatch z))]
    · exact hb
    · intro z
      rcases List.mem_append.mp z with z | z
      · rcases List.mem_cons.mp z with z | z
        · rw [z, hDl] at hb; cases hb
        · obtain ⟨y, hy, e⟩ := List.mem_map.mp z
          obtain ⟨d1, p1, g1, _⟩ := jobs y hy
          rw [← e, g1] at hb
          cases hb
      · obtain ⟨o2, e, n⟩ := hA b z
        rw [up e] at hb
        cases hb
        exact n _ _ rfl
  have addrs_app : addrs (q ++ [js]) = addrs q ++ js.map (·.1) := by
    unfold addrs
    rw [List.flatMap_append]
    simp
  have oldj : ∀ a ∈ addrs q, ∃ c d f, H a = some (.ins c d f) := fun a ha => by
    obtain ⟨ks, hk, hak⟩ := List.mem_flatMap.mp ha
    obtain ⟨y, hy, rfl⟩ := List.mem_map.mp hak
    obtain ⟨i, hi, e⟩ := List.getElem_of_mem hk
    have eq : qAt q i = ks := by
      unfold qAt
      rw [List.getD_eq_getElem?_getD, List.getElem?_eq_getElem hi, e]
      rfl
    obtain ⟨d1, p1, g1, _⟩ := h.job i hi y (by rw [eq]; exact hy)
    exact ⟨_, _, _, g1⟩
  refine ⟨⟨h.cH, h.cJ, by rw [upd_ne (nQ (up h.at_) (fun _ z => nomatch z))]; exact up h.at_, h.base.trans sc, h.dE, h.dR, h.dH, by rw [upd_same, List.map_append]; rfl, by rw [List.length_append, List.length_append, h.len]; rfl, fun e he => ?_, fun e he y hy => ?_, ?_, ?_, ?_, ?_⟩, ?_⟩
  · rw [List.length_append] at he
    have he : e < q.length + 1 := he
    by_cases z : e < q.length
    · rw [rows_app e z, qAt_app e z, upd_ne (rQ e z)]
      exact up (h.row e z)
    · have : e = q.length := by omega
      subst this
      rw [rows_last, qAt_last, upd_ne nDQ]
      exact hDl
  · rw [List.length_append] at he
    have he : e < q.length + 1 := he
    by_cases z : e < q.length
    · rw [qAt_app e z] at hy
      obtain ⟨d1, p1, g1, g2⟩ := h.job e z y hy
      exact ⟨d1, p1, by rw [upd_ne (nQ (up g1) (fun _ z => nomatch z))]; exact up g1, dpMono sc g2⟩
    · have : e = q.length := by omega
      subst this
      rw [qAt_last] at hy
      obtain ⟨d1, p1, g1, g2⟩ := jobs y hy
      exact ⟨d1, p1, by rw [upd_ne (nQ g1 (fun _ z => nomatch z))]; exact g1, dp_tups tups g2 (noList_parts es _)⟩
  · have n1 := List.nodup_cons.mp h.nd
    have Dr : D ∉ rows := fun z => by
      obtain ⟨i, hi, e⟩ := List.getElem_of_mem z
      have hi' : i < q.length := by rw [← h.len]; exact hi
      exact rD i hi' (by rw [List.getD_eq_getElem?_getD, List.getElem?_eq_getElem hi, e]; rfl)
    rw [List.nodup_cons]
    refine ⟨fun z => ?_, ?_⟩
    · rcases List.mem_append.mp z with z | z
      · exact n1.1 z
      · exact nDQ (by simpa using z : aQ = D).symm
    · rw [List.nodup_append]
      exact ⟨n1.2, by simp, fun a ha b hb z => Dr (by have : b = D := by simpa using hb
                                                      rw [← this, ← z]; exact ha)⟩
  · rw [addrs_app, List.nodup_append]
    refine ⟨h.ndj, nd, fun a ha b hb z => ?_⟩
    obtain ⟨c, d, f, g⟩ := oldj a ha
    obtain ⟨y, hy, e⟩ := List.mem_map.mp hb
    rw [z, ← e, hj y hy] at g
    cases g
  · obtain ⟨k1, k2, k3, k4⟩ := h.sub
    refine ⟨List.mem_append_right _ k1, List.mem_append_right _ k2, fun r hr => ?_, fun a ha => ?_⟩
    · rcases List.mem_append.mp hr with z | z
      · exact List.mem_append_right _ (k3 r z)
      · exact List.mem_append_left _ (by rw [(by simpa using z : r = D)]; exact List.mem_cons_self)
    · rw [addrs_app] at ha
      rcases List.mem_append.mp ha with z | z
      · exact List.mem_append_right _ (k4 a z)
      · exact List.mem_append_left _ (List.mem_cons_of_mem _ z)
  · intro a ha
    obtain ⟨o, e, _⟩ := fin a ha
    exact ⟨o, e⟩
  · exact fin
end

theorem hput1 {a : V} : putF "errands" a [] = ([("errands", a)] : List (Str × V)) := by simp [putF]
theorem hput2 {a b : V} : putF "ranks" b (putF "errands" a []) = ([("errands", a), ("ranks", b)] : List (Str × V)) := by simp [putF, n_errands_ranks, n_errands_lending, n_errands_heights, n_errands_queues, n_ranks_errands, n_ranks_lending, n_ranks_heights, n_ranks_queues, n_lending_errands, n_lending_ranks, n_lending_heights, n_lending_queues, n_heights_errands, n_heights_ranks, n_heights_lending, n_heights_queues, n_queues_errands, n_queues_ranks, n_queues_lending, n_queues_heights]
theorem hput3 {a b c : V} : putF "lending" c (putF "ranks" b (putF "errands" a [])) = ([("errands", a), ("ranks", b), ("lending", c)] : List (Str × V)) := by simp [putF, n_errands_ranks, n_errands_lending, n_errands_heights, n_errands_queues, n_ranks_errands, n_ranks_lending, n_ranks_heights, n_ranks_queues, n_lending_errands, n_lending_ranks, n_lending_heights, n_lending_queues, n_heights_errands, n_heights_ranks, n_heights_lending, n_heights_queues, n_queues_errands, n_queues_ranks, n_queues_lending, n_queues_heights]
theorem hput4 {a b c d : V} : putF "heights" d ([("errands", a), ("ranks", b), ("lending", c)] : List (Str × V)) = ([("errands", a), ("ranks", b), ("lending", c), ("heights", d)] : List (Str × V)) := by simp [putF, n_errands_ranks, n_errands_lending, n_errands_heights, n_errands_queues, n_ranks_errands, n_ranks_lending, n_ranks_heights, n_ranks_queues, n_lending_errands, n_lending_ranks, n_lending_heights, n_lending_queues, n_heights_errands, n_heights_ranks, n_heights_lending, n_heights_queues, n_queues_errands, n_queues_ranks, n_queues_lending, n_queues_heights]
theorem hput5 {aE aR aH aQ : Addr} {l : Str} : putF "queues" (.ref aQ) ([("errands", .ref aE), ("ranks", .ref aR), ("lending", .str l), ("heights", .ref aH)] : List (Str × V)) = handFs aE aR aH aQ l := by simp [putF, handFs, n_errands_ranks, n_errands_lending, n_errands_heights, n_errands_queues, n_ranks_errands, n_ranks_lending, n_ranks_heights, n_ranks_queues, n_lending_errands, n_lending_ranks, n_lending_heights, n_lending_queues, n_heights_errands, n_heights_ranks, n_heights_lending, n_heights_queues, n_queues_errands, n_queues_ranks, n_queues_lending, n_queues_heights]
def encCs (cs : List (List Int)) : PyData := .list (cs.map fun r => .list (r.map .int))
def spHandInit (K : PySem.W.Frag) (C : Addr) : Sp := fun vs H Q _ => ∃ (H0 : Hp) (p dx : Addr) (es : List Er) (rs : List Nat) (l : Str) (cs : List (List Int)) (vE vR vC : V), vs = [.ref p, vE, vR, vC, .str l] ∧ Same H0 H ∧ H0 p = none ∧ H p = some (.ins C dx []) ∧
  Dp K H0 vE (encEs es) ∧ Dp K H0 vR (encR rs) ∧ Dp K H0 vC (encCs cs) ∧ FineEs es ∧ Rk es rs ∧ cs.length = es.length ∧ (∀ c ∈ cs, c.length ≤ 60) ∧
  ∀ (Bh H' : Hp) (A : List Addr) (q : Qs), HandAt K Bh H' A p es rs l q → (∀ a ∈ A, H0 a = none) → q.map (fun js => js.map (·.2)) = cs.map jobs0 → Same H0 Bh → Q .non H'
/-- a list that is no part of the hand has got other items -/
theorem HandIn.other {K : PySem.W.Frag} {Bh H : Hp} {A : List Addr} {p : Addr} {es : List Er} {rs : List Nat} {l : Str} {q : Qs} {CH CJ dx aE aR aH aQ : Addr} {rows : List Addr} (h : HandIn K Bh H A p es rs l q CH CJ dx aE aR aH aQ rows) {a : Addr} {xs zs : List V} (ha : a ∉ A) (hB : Bh a = none) (hl : H a = some (.lst xs)) :
    HandIn K Bh (upd H a (.lst zs)) A p es rs l q CH CJ dx aE aR aH aQ rows := by
  have ne : ∀ {b}, b ∈ A → b ≠ a := fun {b} hb z => ha (by rw [← z]; exact hb)
  have tups : ∀ b o xs, cut A H b = some (.frz o (.tup xs)) → cut A (upd H a (.lst zs)) b = some (.frz o (.tup xs)) := fun b o ys hb => by
    obtain ⟨k1, k2⟩ := cut_some hb
    have nb : b ≠ a := fun z => by rw [z, hl] at k2; cases k2
    rw [cut_out k1, upd_ne nb]
    exact k2
  refine ⟨h.cH, h.cJ, by rw [upd_ne (ne h.sub.1)]; exact h.at_, fun b o hb => ?_, h.dE, h.dR, h.dH, by rw [upd_ne (ne h.sub.2.1)]; exact h.qs, h.len, fun e he => ?_, fun e he x hx => ?_, h.nd, h.ndj, h.sub, updAll h.all⟩
  · obtain ⟨k1, k2⟩ := cut_some (h.base b o hb)
    have nb : b ≠ a := fun z => by rw [z, hB] at hb; cases hb
    rw [cut_out k1, upd_ne nb]
    exact k2
  · rw [upd_ne (ne (h.sub.2.2.1 _ (rows_mem h he)))]
    exact h.row e he
  · obtain ⟨dx, pa, g1, g2⟩ := h.job e he x hx
    exact ⟨dx, pa, by rw [upd_ne (ne (h.sub.2.2.2 _ (qAt_mem hx)))]; exact g1, dp_tups tups g2 (noList_parts es e)⟩
theorem HandAt.other {K : PySem.W.Frag} {Bh H : Hp} {A : List Addr} {p : Addr} {es : List Er} {rs : List Nat} {l : Str} {q : Qs} (h : HandAt K Bh H A p es rs l q) {a : Addr} {xs zs : List V} (ha : a ∉ A) (hB : Bh a = none) (hl : H a = some (.lst xs)) : HandAt K Bh (upd H a (.lst zs)) A p es rs l q := by
  obtain ⟨CH, CJ, dx, aE, aR, aH, aQ, rows, h⟩ := h
  exact ⟨CH, CJ, dx, aE, aR, aH, aQ, rows, h.other ha hB hl⟩
end L2.DL
set_option maxHeartbeats 2000000
namespace L2.DL
open PySem PySem.Spec PyProof.Rows

/-! ### the hand's readers -/
@[simp] theorem insD_job (es : List Er) (e : Nat) (x : Addr × Jb) : insD "Job" (jobD es e x) = some (jobKv es e x.2) := insD_tag _ _ _
@[simp] theorem insD_hand (p : Addr) (es : List Er) (rs : List Nat) (l : Str) (q : Qs) : insD "Hand" (handD p es rs l q) = some (handKv es rs l q) := insD_tag _ _ _
@[simp] theorem eFld_ap (c f : Str) (fo : Ex) (ρ : Env) : eFld c f fo ρ = (fo ρ).bind fun x => Res.of ((insD c x).bind (fldD f)) := rfl
theorem eMeth_ap (c m : Str) (fn : List PyData → Res PyData) (fo : Ex) (args : Ar) (ρ : Env) {x : PyData} {kvs : List (PyData × PyData)} (h : fo ρ = .ok x) (h1 : insD c x = some kvs) (h2 : fldD m kvs = none) : eMeth c m fn fo args ρ = (args ρ).bind fun as => fn (x :: as) := by
  unfold eMeth
  rw [h, Res.bind_ok, h1]
  simp [h2]
@[simp] theorem fld_spent' (es : List Er) (e : Nat) (j : Jb) : fldD "spent" (jobKv es e j) = some (.int (j.spent : Int)) := fld_spent es e j
@[simp] theorem fld_part' (es : List Er) (e : Nat) (j : Jb) : fldD "part" (jobKv es e j) = some (.int (j.part : Int)) := fld_part es e j
@[simp] theorem fld_parts' (es : List Er) (e : Nat) (j : Jb) : fldD "parts" (jobKv es e j) = some (partsD es e) := fld_parts es e j
@[simp] theorem fld_come' (es : List Er) (e : Nat) (j : Jb) : fldD "come" (jobKv es e j) = some (.int j.come) := fld_come es e j
@[simp] theorem fld_number' (es : List Er) (e : Nat) (j : Jb) : fldD "number" (jobKv es e j) = some (.int (j.num : Int)) := fld_number es e j
@[simp] theorem fld_errand' (es : List Er) (e : Nat) (j : Jb) : fldD "errand" (jobKv es e j) = some (.int (e : Int)) := fld_errand es e j
@[simp] theorem fld_queues' (es : List Er) (rs : List Nat) (l : Str) (q : Qs) : fldD "queues" (handKv es rs l q) = some (.list (qD es q)) := fld_queues es rs l q
@[simp] theorem fld_heights' (es : List Er) (rs : List Nat) (l : Str) (q : Qs) : fldD "heights" (handKv es rs l q) = some (.list (encHs es rs)) := fld_heights es rs l q
@[simp] theorem fld_lending' (es : List Er) (rs : List Nat) (l : Str) (q : Qs) : fldD "lending" (handKv es rs l q) = some (.str l) := fld_lending es rs l q
@[simp] theorem fld_ranks' (es : List Er) (rs : List Nat) (l : Str) (q : Qs) : fldD "ranks" (handKv es rs l q) = some (encR rs) := fld_ranks es rs l q
theorem job_tool_no (es : List Er) (e : Nat) (j : Jb) : fldD "tool" (jobKv es e j) = none := job_no es e j _ (by decide +kernel)
theorem job_holds_no (es : List Er) (e : Nat) (j : Jb) : fldD "holds" (jobKv es e j) = none := job_no es e j _ (by decide +kernel)
theorem hand_rank_no (es : List Er) (rs : List Nat) (l : Str) (q : Qs) : fldD "rank" (handKv es rs l q) = none := hand_no es rs l q _ (by decide +kernel)
theorem hand_waits_no (es : List Er) (rs : List Nat) (l : Str) (q : Qs) : fldD "waits" (handKv es rs l q) = none := hand_no es rs l q _ (by decide +kernel)
theorem hand_height_no (es : List Er) (rs : List Nat) (l : Str) (q : Qs) : fldD "height" (handKv es rs l q) = none := hand_no es rs l q _ (by decide +kernel)
theorem hand_first_no (es : List Er) (rs : List Nat) (l : Str) (q : Qs) : fldD "first_ones" (handKv es rs l q) = none := hand_no es rs l q _ (by decide +kernel)
/-- an errand's number and its first job -/
abbrev Y := Nat × (Addr × Jb)
def yD (es : List Er) (y : Y) : PyData := jobD es y.1 y.2
@[simp] theorem insD_y (es : List Er) (y : Y) : insD "Job" (yD es y) = some (jobKv es y.1 y.2.2) := insD_tag _ _ _
def toolY (es : List Er) (y : Y) : Option Int := ((E es y.1).parts.getD y.2.2.part (0, none)).2
def holdsY (es : List Er) (y : Y) : Option Int := if y.2.2.spent = 0 then none else toolY es y
def PartOk (es : List Er) (y : Y) : Prop := y.2.2.part < (E es y.1).parts.length
theorem tool_ok {es : List Er} {y : Y} (h : PartOk es y) : m_Job_tool [yD es y] = .ok (encO (toolY es y)) := by
  have h1 : oIx (partsD es y.1) (.int (y.2.2.part : Int)) = some (encP ((E es y.1).parts.getD y.2.2.part (0, none))) := by
    refine atI_nat ?_
    rw [List.getElem?_map, List.getElem?_eq_getElem h, List.getD_eq_getElem?_getD, List.getElem?_eq_getElem h]
    rfl
  simp [m_Job_tool, runD_ap, startD, h1, toolY]
theorem holds_ok {es : List Er} {y : Y} (h : PartOk es y) : m_Job_holds [yD es y] = .ok (encO (holdsY es y)) := by
  have h1 := tool_ok h
  simp only [m_Job_holds, runD_ap, startD_ap]
  by_cases hs : y.2.2.spent = 0
  · simp [hs, holdsY, encO]
  · have hs' : ((y.2.2.spent : Nat) : Int) ≠ 0 := by omega
    have em := eMeth_ap "Job" "tool" m_Job_tool (eVar 0) aNil [some (yD es y)] (x := yD es y) rfl (insD_y es y) (job_tool_no _ _ _)
    simp [hs, hs', holdsY, em, h1]
theorem rank_ok {es : List Er} {rs : List Nat} {l : Str} {q : Qs} {p : Addr} {y : Y} (h : y.1 ∈ rs) : m_Hand_rank [handD p es rs l q, yD es y] = .ok (.int ((rs.idxOf y.1 : Nat) : Int)) := by
  have h1 := index_ok h
  have h2 : eTupIx (eFld "Hand" "ranks" (eVar 0)) (eFld "Job" "errand" (eVar 1)) [some (handD p es rs l q), some (yD es y)] = .ok (.int ((rs.idxOf y.1 : Nat) : Int)) := by
    unfold eTupIx
    simp [encR] at h1 ⊢
    simp [h1]
  simp only [m_Hand_rank, runD_ap, startD_ap]
  simp only [List.map_cons, List.map_nil, List.length_cons, List.length_nil, List.cons_append, List.nil_append, Nat.sub_self, List.replicate, retS_ap]
  rw [h2]
  rfl
def waitsY (es : List Er) (l : Str) (some : List Y) (y : Y) : Bool := if l = "high" ∨ 0 < y.2.2.spent ∨ toolY es y = none then false else some.any fun z => holdsY es z == toolY es y
/-- the ways of lending -/
def LOk (l : Str) : Prop := l = "high" ∨ l = "asked" ∨ l = "none"
theorem oEq_str {a b : Str} (ha : PyData.strOk a = true) (hb : PyData.strOk b = true) : oEq (.str a) (.str b) = some (.bool (decide (a = b))) := by
  unfold oEq
  have h : ∀ {s : Str}, PyData.strOk s = true → SeqAt.shaped (.str s) = true := fun {s} h => by simp [SeqAt.shaped, PyData.canLay0, PyData.depth, h]
  rw [if_pos ⟨h ha, h hb⟩]
  congr 2
theorem ok_high : PyData.strOk "high" = true := by decide +kernel
theorem ok_none : PyData.strOk "none" = true := by decide +kernel
theorem LOk.str {l : Str} (h : LOk l) : PyData.strOk l = true := by
  rcases h with rfl | rfl | rfl
  · decide +kernel
  · decide +kernel
  · decide +kernel
theorem eqv_encO (a b : Option Int) : PyData.eqv (encO a) (encO b) = (a == b) := by
  cases a <;> cases b <;> simp [encO, PyData.eqv]
theorem waits_ok {es : List Er} {rs : List Nat} {l : Str} {q : Qs} {p : Addr} {y : Y} {some_ : List Y} (hL : LOk l) (hy : PartOk es y) (hs : ∀ z ∈ some_, PartOk es z) (hl : some_.length ≤ 6) : m_Hand_waits [handD p es rs l q, yD es y, .list (some_.map (yD es))] = .ok (.bool (waitsY es l some_ y)) := by
  have em := eMeth_ap "Job" "tool" m_Job_tool (eVar 1) aNil [some (handD p es rs l q), some (yD es y), some (.list (some_.map (yD es))), none] (x := yD es y) rfl (insD_y es y) (job_tool_no _ _ _)
  have ht := tool_ok hy
  have em' : eMeth "Job" "tool" m_Job_tool (eVar 1) aNil [some (handD p es rs l q), some (yD es y), some (.list (some_.map (yD es))), none] = .ok (encO (toolY es y)) := by rw [em]; simp [ht]
  have hc : compD (.one 3) teYes (eMeth "Job" "holds" m_Job_holds (eVar 3) aNil) [some (handD p es rs l q), some (yD es y), some (.list (some_.map (yD es))), none] (some_.map (yD es)) = .ok (some_.map fun z => encO (holdsY es z)) :=
    compD_map (yD es) (fun z => encO (holdsY es z)) some_ fun z hz => ⟨_, rfl, by
      have := eMeth_ap "Job" "holds" m_Job_holds (eVar 3) aNil [some (handD p es rs l q), some (yD es y), some (.list (some_.map (yD es))), some (yD es z)] (x := yD es z) rfl (insD_y es z) (job_holds_no _ _ _)
      simp only [List.set_cons_succ, List.set_cons_zero]
      rw [this]
      simp [holds_ok (hs z hz)]⟩
  have oEq_str := oEq_str hL.str ok_high
  simp only [m_Hand_waits, runD_ap, startD_ap]
  by_cases h1 : l = "high"
  · rw [decide_eq_true h1] at oEq_str
    rw [show waitsY es l some_ y = false from if_pos (.inl h1)]
    simp [oEq_str]
  · rw [decide_eq_false h1] at oEq_str
    by_cases h2 : 0 < y.2.2.spent
    · have h2' : (0 : Int) < (y.2.2.spent : Int) := by omega
      simp [h1, oEq_str, waitsY, h2, h2', em', isN_encO]
    · have h2' : ¬ (0 : Int) < (y.2.2.spent : Int) := by omega
      cases h3 : toolY es y with
      | none =>
        rw [h3] at em'
        simp [h1, oEq_str, waitsY, h2, h2', em', h3, encO]
      | some t =>
        have em' : eMeth "Job" "tool" m_Job_tool (eVar 1) aNil [some (handD p es rs l q), some (yD es y), some (.list (some_.map (yD es))), none] = .ok (.int t) := by rw [em', h3]; rfl
        have hin : oIn (.int t) (.list (some_.map fun z => encO (holdsY es z))) = some (.bool (some_.any fun z => holdsY es z == some t)) := by
          rw [oIn_of (n := 1) (Lay.int 1 t) (Lay.list fun d hd => by
            obtain ⟨z, _, rfl⟩ := List.mem_map.mp hd
            exact lay_encO 0 _)]
          congr 2
          rw [List.any_map]
          congr 1
          funext z
          show PyData.eqv (encO (holdsY es z)) (encO (some t)) = _
          rw [eqv_encO]
        simp [h1, oEq_str, waitsY, h2, h2', em', h3, hc, hin, show some_.length < 16777216 by omega]
end L2.DL
set_option maxHeartbeats 2000000
namespace L2.DL
open PySem PySem.Spec PyProof.Rows

/-! ### heights by the law -/
/-- four things -/
def four (f : Int → Option Nat) : List PyData := [encH (f 0), encH (f 1), encH (f 2), encH (f 3)]
theorem four_encHs (es : List Er) (rs : List Nat) : encHs es rs = four (hgt es rs) := by
  simp [encHs, four, List.range_succ]
theorem four_set (f : Int → Option Nat) {t : Int} (h0 : 0 ≤ t) (h1 : t ≤ 3) (k : Nat) : (four f).set t.toNat (.int (k : Int)) = four fun u => if u = t then some k else f u := by
  obtain h | h | h | h : t = 0 ∨ t = 1 ∨ t = 2 ∨ t = 3 := by omega
  all_goals
    subst h
    simp [four, encH, encO]
theorem downD_rev : ∀ n : Nat, downD ((n : Int) - 1) (-1) = (List.range n).reverse.map encN
  | 0 => rfl
  | n + 1 => by
    have ih := downD_rev n
    unfold downD at ih ⊢
    have e1 : (((n + 1 : Nat) : Int) - 1 - -1).toNat = n + 1 := by omega
    have e2 : ((n : Int) - 1 - -1).toNat = n := by omega
    rw [e2] at ih
    rw [e1, List.range_succ, List.reverse_append, List.reverse_singleton, List.singleton_append, List.map_cons, ← ih, ← List.range_succ, List.range_succ_eq_map, List.map_cons, List.map_map]
    congr 1
    · show PyData.int _ = PyData.int _
      congr 1
      omega
    · apply List.map_congr_left
      intro i _
      show PyData.int _ = PyData.int _
      congr 1
      simp
      omega
theorem law_heights_ok {es : List Er} {rs : List Nat} (he : FineEs es) (hr : Rk es rs) : m__law_heights [encEs es, encR rs] = .ok (.list (encHs es rs)) := by
  have hl := hr.len
  rw [four_encHs]
  simp only [m__law_heights, runD_ap]
  simp [-forS_ap]
  refine nx_toR (for_nx encN (fun pre ρ => ∃ a b c, ρ = [some (encEs es), some (encR rs), some (.list (four fun t => pre.reverse.find? fun k => hasTool (E es (rkAt rs k)) t)), a, b, c]) (List.range rs.length).reverse ?_ ⟨none, none, none, rfl⟩ fun pre a post ρ ha ⟨x, y, z, hρ⟩ => ?_) fun ρ ⟨a, b, c, hρ⟩ => ?_
  · have h1 : inB ((rs.length : Int) - 1) := ⟨by omega, by omega⟩
    have h2 : inB (-1) := ⟨by omega, by omega⟩
    simp [h1, h2, downD_rev]
  · subst hρ
    have hk : a < rs.length := by
      have : a ∈ (List.range rs.length).reverse := by rw [ha]; simp
      simpa using this
    generalize hf : (fun t : Int => pre.reverse.find? fun k => hasTool (E es (rkAt rs k)) t) = f
    have ht : ∀ t : Int, ((pre ++ [a]).reverse.find? fun k => hasTool (E es (rkAt rs k)) t) = if hasTool (E es (rkAt rs a)) t = true then some a else f t := by
      intro t
      rw [List.reverse_append, List.reverse_singleton, List.singleton_append, List.find?_cons, ← hf]
      cases hasTool (E es (rkAt rs a)) t <;> rfl
    simp only [ht]
    refine ⟨_, rfl, ?_⟩
    refine nx_mono (for_nx encP (fun qs ρ => ∃ b c, ρ = [some (encEs es), some (encR rs), some (.list (four fun t => if (qs.any fun p => p.2 == some t) = true then some a else f t)), some (encN a), b, c]) (E es (rkAt rs a)).parts ?_ ⟨y, z, by simp⟩ fun qs p q ρ hq ⟨b, c, hρ⟩ => ?_) fun ρ ⟨b, c, hρ⟩ => ⟨some (encN a), b, c, ?_⟩
    · simp [encN, ix_ranks hk, oIx_encEs (hr.atlt hk)]
    · subst hρ
      have hmp : p ∈ (E es (rkAt rs a)).parts := by rw [hq]; simp
      refine ⟨[some (encEs es), some (encR rs), some (.list (four fun t => if (qs.any fun p => p.2 == some t) = true then some a else f t)), some (encN a), some (.int p.1), some (encO p.2)], by simp [encP], ?_⟩
      cases e : p.2 with
      | none =>
        have : (fun t => if ((qs ++ [p]).any fun p => p.2 == some t) = true then some a else f t) = fun t => if (qs.any fun p => p.2 == some t) = true then some a else f t := by
          funext u
          rw [List.any_append]
          simp only [List.any_cons, List.any_nil, e, Bool.or_false]
          rw [show ((none : Option Int) == some u) = false from rfl, Bool.or_false]
        rw [this]
        simp [encO, asB]
        exact Nx.of ⟨some (.int p.1), some .none, rfl⟩
      | some t =>
        have h3 := ((he.at _).part p hmp).2.2 t e
        have hix : ixN 4 t = some t.toNat := by
          obtain ⟨m, rfl⟩ : ∃ m : Nat, t = (m : Int) := ⟨t.toNat, by omega⟩
          unfold ixN
          simp
          omega
        generalize hg : (fun u => if (qs.any fun p => p.2 == some u) = true then some a else f u) = g
        have hlen : (four g).length = 4 := rfl
        simp [encO, asB, encN, hlen, hix, four_set g h3.1 h3.2]
        refine Nx.of ⟨some (.int p.1), some (encO (some t)), ?_⟩
        have : (fun u => if u = t then some a else g u) = fun u => if ((qs ++ [p]).any fun p => p.2 == some u) = true then some a else f u := by
          funext u
          rw [List.any_append, ← hg]
          simp only [List.any_cons, List.any_nil, e, Bool.or_false]
          by_cases hu : u = t
          · subst hu; simp
          · have : ((some t : Option Int) == some u) = false := by simp; omega
            rw [if_neg hu, this, Bool.or_false]
        rw [this]
        rfl
    · subst hρ
      rfl
  · subst hρ
    simp
    rfl
theorem law_hold_ok {es : List Er} {rs : List Nat} (he : FineEs es) (hr : Rk es rs) {n : Nat} (hn : n ∈ rs) : m__law_hold [encEs es, encR rs, encN n] = .ok (.int (hold es rs n)) := by
  have hl := hr.len
  have hk : rs.idxOf n < rs.length := List.idxOf_lt_length_of_mem hn
  have hidx := index_ok hn
  have hsl : oSlice (encR rs) (some ((rs.idxOf n : Nat) + 1 : Int)) none = some (encR (rs.drop (rs.idxOf n + 1))) := slice_from (n := rs.idxOf n + 1) (by omega)
  simp only [m__law_hold, runD_ap, encN]
  unfold hold
  generalize hK : rs.idxOf n = k at *
  have hh := law_heights_ok he hr
  simp [-forS_ap, hidx, hh, hsl]
  refine nx_toR (for_nx encN (fun pre ρ => ∃ a b c, ρ = [some (encEs es), some (encR rs), some (.int (n : Int)), some (.int (k : Int)), some (.list (encHs es rs)), some (.int ((pre.flatMap (hp es rs k)).foldl max 0)), a, b, c]) (rs.drop (k + 1)) ?_ ⟨_, _, _, rfl⟩ fun pre a post ρ ha ⟨x, y, z, hρ⟩ => ?_) fun ρ ⟨a, b, c, hρ⟩ => by subst hρ; simp
  · simp [hsl]
  · subst hρ
    have hm : a ∈ rs := List.mem_of_mem_drop (i := k + 1) (by rw [ha]; simp)
    refine ⟨_, rfl, ?_⟩
    refine nx_mono (for_nx encP (fun qs ρ => ∃ b c, ρ = [some (encEs es), some (encR rs), some (.int (n : Int)), some (.int (k : Int)), some (.list (encHs es rs)), some (.int ((pre.flatMap (hp es rs k) ++ (qs.filter (holdP es rs k)).map lm1).foldl max 0)), some (encN a), b, c]) (E es a).parts ?_ ⟨y, z, by simp⟩ fun qs p q ρ hq ⟨b, c, hρ⟩ => ?_) fun ρ ⟨b, c, hρ⟩ => ⟨some (encN a), b, c, ?_⟩
    · simp [encN, oIx_encEs (hr.lt a hm)]
    · subst hρ
      have hmp : p ∈ (E es a).parts := by rw [hq]; simp
      refine ⟨[some (encEs es), some (encR rs), some (.int (n : Int)), some (.int (k : Int)), some (.list (encHs es rs)), some (.int ((pre.flatMap (hp es rs k) ++ (qs.filter (holdP es rs k)).map lm1).foldl max 0)), some (encN a), some (.int p.1), some (encO p.2)], by simp [encP], ?_⟩
      rw [ifS_ap, hold_test he hm hmp, toS_ok]
      cases hb : holdP es rs k p with
      | false =>
        refine Nx.of ⟨some (.int p.1), some (encO p.2), ?_⟩
        rw [List.filter_append, List.filter_cons_of_neg (by simp [hb])]
        simp
      | true =>
        rw [List.filter_append, List.filter_cons_of_pos hb, List.filter_nil, List.map_append, ← List.append_assoc, List.foldl_append (l := _ ++ _)]
        generalize (pre.flatMap (hp es rs k) ++ (qs.filter (holdP es rs k)).map lm1).foldl max 0 = A
        simp
        refine Nx.of ⟨some (.int p.1), some (encO p.2), ?_⟩
        have : (if A < p.1 - 1 then p.1 - 1 else A) = max A (p.1 - 1) := by omega
        rw [this]
        rfl
    · subst hρ
      rw [List.flatMap_append, List.flatMap_singleton]
      rfl
/-! ### the need -/
theorem law_work_ok {e : Er} (h : FineE e) : m__law_work [encE e] = .ok (.int (work e)) := work_of_ok h.parts.2
def often (e : Er) (t : Int) : Int := (t + e.late + e.every - 1) / e.every
def needs (es : List Er) (rs : List Nat) (n : Nat) (t : Int) : List Int := (rs.take (rs.idxOf n)).map fun o => often (E es o) t * work (E es o)
def need (es : List Er) (rs : List Nat) (n : Nat) (h t : Int) : Int := h + work (E es n) + (needs es rs n t).sum
theorem sum_bounds : ∀ {ps : List (Int × Option Int)}, (∀ p ∈ ps, 1 ≤ p.1 ∧ p.1 ≤ 1000) → (ps.length : Int) ≤ (ps.map (·.1)).sum ∧ (ps.map (·.1)).sum ≤ 1000 * ps.length
  | [], _ => by simp
  | p :: ps, h => by
    have h1 := h p List.mem_cons_self
    have h2 := sum_bounds fun q hq => h q (List.mem_cons_of_mem _ hq)
    simp only [List.map_cons, List.sum_cons, List.length_cons]
    omega
theorem work_bounds {e : Er} (h : FineE e) : 1 ≤ work e ∧ work e ≤ 4000 := by
  have := sum_bounds fun p hp => ⟨(h.part p hp).1, (h.part p hp).2.1⟩
  have := h.parts
  unfold work
  omega
theorem often_ok {e : Er} (h : FineE e) (t : Int) : m_often [encE e, .int t] = .ok (.int (often e t)) := by
  have h1 := h.every
  simp [m_often, runD_ap, often]
  rw [if_pos (by omega)]
  rfl
theorem oSum_ints (ns : List Int) : oSum (.list (ns.map .int)) = some (.int ns.sum) := by
  unfold oSum
  dsimp only
  rw [toInts_map]
  rfl
theorem need_with_ok {es : List Er} {rs : List Nat} (he : FineEs es) (hr : Rk es rs) {n : Nat} (hn : n ∈ rs) (h t : Int) : m_need_with [encEs es, encR rs, encN n, .int h, .int t] = .ok (.int (need es rs n h t)) := by
  have hl := hr.len
  have hk : rs.idxOf n < rs.length := List.idxOf_lt_length_of_mem hn
  have hidx := index_ok hn
  have hsl := slice_to (rs := rs) (n := rs.idxOf n) (by omega)
  have hw := work_of_ok (he.at n).parts.2
  have hc : compD (.one 7) teYes (eOp oMul (eCall m_often (aCons (eOp oIx (eVar 0) (eVar 7)) (aCons (eVar 4) aNil))) (eCall m_work_of (aCons (eOp oIx (eVar 0) (eVar 7)) aNil))) [some (encEs es), some (encR rs), some (.int (n : Int)), some (.int h), some (.int t), some (encR (rs.take (rs.idxOf n))), some (.int (h + work (E es n))), none] ((rs.take (rs.idxOf n)).map encN) = .ok ((rs.take (rs.idxOf n)).map fun o => PyData.int (often (E es o) t * work (E es o))) :=
    compD_map encN _ _ fun o ho => by
      have hm : o ∈ rs := List.mem_of_mem_take ho
      have hw := work_of_ok (he.at o).parts.2
      have hb := work_bounds (he.at o)
      refine ⟨_, rfl, ?_⟩
      simp [encN, oIx_encEs (hr.lt o hm), often_ok (he.at o), hw]
      rw [if_pos (Or.inr ⟨by omega, by omega⟩)]
      rfl
  have hs : (rs.take (rs.idxOf n)).map (fun o => PyData.int (often (E es o) t * work (E es o))) = (needs es rs n t).map .int := by
    unfold needs
    rw [List.map_map]
    rfl
  rw [hs] at hc
  have hlen : (rs.take (rs.idxOf n)).length < 16777216 := by rw [List.length_take]; omega
  generalize rs.take (rs.idxOf n) = T at *
  simp [m_need_with, runD_ap, encN, hidx, hsl, oIx_encEs (hr.lt n hn), hw, hc, oSum_ints, hlen]
  rfl
end L2.DL
set_option maxHeartbeats 2000000
namespace L2.DL
open PySem PySem.Spec PyProof.Rows

theorem often_alt {a e : Int} (h : 0 < e) : (a + e - 1) / e = a / e + if 0 < a % e then 1 else 0 := by
  have h1 := Int.mul_ediv_add_emod a e
  have h2 := Int.emod_nonneg a (by omega : e ≠ 0)
  have h3 := Int.emod_lt_of_pos a h
  generalize a / e = q at *
  generalize a % e = r at *
  split
  · rename_i hr
    have : a + e - 1 = (r - 1) + e * (q + 1) := by rw [Int.mul_add]; omega
    rw [this, Int.add_mul_ediv_left _ _ (by omega), Int.ediv_eq_zero_of_lt (by omega) (by omega)]
    omega
  · rename_i hr
    have : a + e - 1 = (e - 1) + e * q := by omega
    rw [this, Int.add_mul_ediv_left _ _ (by omega), Int.ediv_eq_zero_of_lt (by omega) (by omega)]
    omega
theorem law_need_ok {es : List Er} {rs : List Nat} (he : FineEs es) (hr : Rk es rs) {n : Nat} (hn : n ∈ rs) (t : Int) : m__law_need [encEs es, encR rs, encN n, .int t] = .ok (.int (need es rs n (hold es rs n) t)) := by
  have hl := hr.len
  have hk : rs.idxOf n < rs.length := List.idxOf_lt_length_of_mem hn
  have hidx := index_ok hn
  have hsl := slice_to (rs := rs) (n := rs.idxOf n) (by omega)
  have hw := law_work_ok (he.at n)
  have hh := law_hold_ok he hr hn
  simp only [m__law_need, runD_ap]
  unfold encN at *
  simp [-forS_ap, hh, hw, oIx_encEs (hr.lt n hn)]
  refine nx_toR (for_nx encN (fun pre ρ => ∃ a b c d e g, ρ = [some (encEs es), some (encR rs), some (.int (n : Int)), some (.int t), some (.int (hold es rs n + work (E es n) + (pre.map fun o => often (E es o) t * work (E es o)).sum)), a, b, c, d, e, g]) (rs.take (rs.idxOf n)) ?_ ⟨none, none, none, none, none, none, by simp⟩ fun pre a post ρ ha ⟨b, c, d, e, g, i, hρ⟩ => ?_) fun ρ ⟨b, c, d, e, g, i, hρ⟩ => by subst hρ; simp [need, needs]
  · simp [hidx, hsl]
  · subst hρ
    have hm : a ∈ rs := List.mem_of_mem_take (i := rs.idxOf n) (by rw [ha]; simp)
    refine ⟨_, rfl, ?_⟩
    have hf := he.at a
    have hlt := hr.lt a hm
    have hix := oIx_encEs hlt
    have hwa := law_work_ok hf
    have hwb := work_bounds hf
    have hev := hf.every
    have he2 : encE (E es a) = .tuple [.int (E es a).every, .int (E es a).due, .int (E es a).late, .tuple ((E es a).parts.map encP)] := rfl
    have hof : (t + (E es a).late) / (E es a).every + (if 0 < (t + (E es a).late) % (E es a).every then 1 else 0) = often (E es a) t := by
      unfold often
      rw [← often_alt (by omega)]
    simp only [seqS_ap, asgS_ap, eOp_ap, eVar_succ, eVar_zero, List.set_cons_succ, List.set_cons_zero, wipeD_nil, Res.bind_ok, encN, hix, Res.of_some, toS_ok, he2, bindT_tup, List.length_cons, List.length_nil, if_true, setAll_cons, setAll_nil, toS'_ok, andThen_nx, setS_ap, oAdd_int]
    simp only [oDiv_int, oMod_int, if_pos (show 0 < (E es a).every ∧ (E es a).every < 1073741824 by omega), if_pos (show 0 < (E es a).every by omega), Res.of_some, Res.bind_ok, eC_ap, eCall1_ap, oGt_int, oInt_bool, decide_eq_true_eq, oAdd_int, hof, toS_ok, andThen_nx, List.set_cons_succ, List.set_cons_zero, eVar_succ, eVar_zero, eCall_ap, aCons_ap, aNil_ap, eOp_ap, hwa, hix, oMul_int]
    simp only [setS_ap, wipeD_nil, eOp_ap, eVar_succ, eVar_zero, eCall_ap, aCons_ap, aNil_ap, hwa, hix, oMul_int, Res.of_some, Res.bind_ok]
    rw [if_pos (Or.inr ⟨by omega, by omega⟩)]
    simp only [Res.of_some, Res.bind_ok, oAdd_int, toS_ok]
    refine Nx.of ⟨some (.int (a : Int)), some (.int (often (E es a) t)), some (.int (E es a).every), some (.int (E es a).due), some (.int (E es a).late), some (.tuple ((E es a).parts.map encP)), ?_⟩
    rw [List.map_append, List.sum_append, List.map_singleton, List.sum_singleton, ← Int.add_assoc]
    rfl
/-! ### the longest answer -/
/-- the least time from 1 to every less late that is no less than its need -/
def lngH (es : List Er) (rs : List Nat) (n : Nat) (h : Int) : Option Int := ((List.range ((E es n).every - (E es n).late).toNat).find? fun (i : Nat) => decide (need es rs n h (1 + (i : Int)) ≤ 1 + (i : Int))).map fun (i : Nat) => 1 + (i : Int)
abbrev lng (es : List Er) (rs : List Nat) (n : Nat) : Option Int := lngH es rs n (hold es rs n)
theorem findSome_if {α β : Type} (p : α → Bool) (g : α → β) : ∀ xs : List α, (xs.findSome? fun a => if p a = true then some (g a) else none) = (xs.find? p).map g
  | [] => rfl
  | a :: xs => by
    rw [List.findSome?_cons, List.find?_cons]
    cases h : p a with
    | true => rfl
    | false =>
      rw [if_neg (by simp)]
      exact findSome_if p g xs
theorem rangeD_one (m : Int) : rangeD 1 (m + 1) = (List.range m.toNat).map fun (i : Nat) => PyData.int (1 + (i : Int)) := by
  unfold rangeD
  have : (m + 1 - 1).toNat = m.toNat := by omega
  rw [this]
theorem law_longest_ok {es : List Er} {rs : List Nat} (he : FineEs es) (hr : Rk es rs) {n : Nat} (hn : n ∈ rs) : m__law_longest [encEs es, encR rs, encN n] = .ok (encO (lng es rs n)) := by
  have hix := oIx_encEs (hr.lt n hn)
  have hf := he.at n
  simp only [m__law_longest, runD_ap]
  simp [-forS_ap]
  refine for_find (fun (i : Nat) => PyData.int (1 + (i : Int))) (fun ρ => ∃ x, ρ = [some (encEs es), some (encR rs), some (encN n), x]) (fun i => if (decide (need es rs n (hold es rs n) (1 + (i : Int)) ≤ 1 + (i : Int))) = true then some (PyData.int (1 + (i : Int))) else none) (List.range ((E es n).every - (E es n).late).toNat) ?_ ⟨_, rfl⟩ (fun i ρ hi ⟨x, hρ⟩ => ?_) ?_
  · have h1 := hf.every
    have h2 := hf.late
    have hb : inB 1 ∧ inB ((E es n).every - (E es n).late + 1) := ⟨⟨by omega, by omega⟩, ⟨by omega, by omega⟩⟩
    unfold encN
    simp [hix, hb, rangeD_one]
  · subst hρ
    refine ⟨_, rfl, ?_⟩
    have hnd := law_need_ok he hr hn (1 + (i : Int))
    by_cases hd : need es rs n (hold es rs n) (1 + (i : Int)) ≤ 1 + (i : Int)
    · rw [if_pos (by simpa using hd)]
      simp [hnd, asB, hd]
    · rw [if_neg (by simpa using hd)]
      simp [hnd, asB, hd]
      exact Nx.of ⟨_, rfl⟩
  · rw [findSome_if]
    unfold lng lngH
    cases (List.range ((E es n).every - (E es n).late).toNat).find? fun (i : Nat) => decide (need es rs n (hold es rs n) (1 + (i : Int)) ≤ 1 + (i : Int)) with
    | some i => rfl
    | none =>
      rintro ρ ⟨x, rfl⟩
      rfl
/-! ### the climb -/
inductive Lv (f : Int → Int) : List Int → Int → Prop
  | one : Lv f [f 1] (f 1)
  | more {l : List Int} {a : Int} : Lv f l a → a < f a → Lv f (l ++ [f a]) (f a)
theorem Lv.last {f : Int → Int} {l : List Int} {a : Int} (h : Lv f l a) : ∃ r, l = r ++ [a] := by
  cases h with
  | one => exact ⟨[], rfl⟩
  | more h _ => exact ⟨_, rfl⟩
theorem Lv.len {f : Int → Int} {l : List Int} {a : Int} (h : Lv f l a) (h1 : 1 ≤ f 1) : (l.length : Int) ≤ a := by
  induction h with
  | one => simpa using h1
  | more h hlt ih => rw [List.length_append]; simp only [List.length_singleton]; omega
theorem Lv.under {f : Int → Int} {l : List Int} {a : Int} (h : Lv f l a) (hm : ∀ s t, s ≤ t → f s ≤ f t) : ∀ t, 1 ≤ t → t < a → t < f t := by
  induction h with
  | one =>
    intro t h1 h2
    have := hm 1 t h1
    omega
  | more h hlt ih =>
    rename_i l a
    intro t h1 h2
    by_cases hta : t < a
    · exact ih t h1 hta
    · have := hm a t (by omega)
      omega
theorem Lv.pos {f : Int → Int} {l : List Int} {a : Int} (h : Lv f l a) (h1 : 1 ≤ f 1) : 1 ≤ a := by
  have h2 := h.len h1
  obtain ⟨r, rfl⟩ := h.last
  rw [List.length_append] at h2
  simp only [List.length_singleton] at h2
  omega
/-- a told row of levels, or none -/
def LvR (f : Int → Int) (most : Int) : Option (List Int) → Prop
  | none => ∀ t, 1 ≤ t → t ≤ most → t < f t
  | some l => ∃ a, Lv f l a ∧ f a = a ∧ a ≤ most
def encL : Option (List Int) → PyData
  | none => .none
  | some l => .list (l.map .int)
theorem levels_with_ok {es : List Er} {rs : List Nat} (he : FineEs es) (hr : Rk es rs) {n : Nat} (hn : n ∈ rs) (h : Int) (h1 : 1 ≤ need es rs n h 1) (hm : ∀ s t, s ≤ t → need es rs n h s ≤ need es rs n h t) :
    ∃ r, m_levels_with [encEs es, encR rs, encN n, .int h] = .ok (encL r) ∧ LvR (need es rs n h) ((E es n).every - (E es n).late) r := by
  have hix := oIx_encEs (hr.lt n hn)
  have hf := he.at n
  have hnd := need_with_ok he hr hn h
  simp only [m_levels_with, runD_ap]
  simp only [encN] at hnd ⊢
  simp [hnd, hix]
  generalize hM : (E es n).every - (E es n).late = most
  have hmost : most ≤ 1000 := by
    have h1 := hf.every
    have h2 := hf.late
    omega
  generalize hF : need es rs n h = f at *
  generalize hC : (eB (eOp oLe (eOp oIx (eVar 5) (eUn oNeg (eC (.int 1)))) (eVar 4))) = C
  generalize hB : (seqS (setS [5] 6 _) _) = B
  have key : ∀ (d : Nat) (l : List Int) (a : Int) (x : Option PyData), Lv f l a → most - a < d → ∃ r, ((whileS C B [some (encEs es), some (encR rs), some (.int (n : Int)), some (.int h), some (.int most), some (.list (l.map .int)), x]).andThen (retS (eC .none))).toR = .ok (encL r) ∧ LvR f most r := by
    intro d
    induction d with
    | zero =>
      intro l a x hv hd
      have hlast : atI (l.map PyData.int) (-1) = some (.int a) := by
        obtain ⟨r, rfl⟩ := hv.last
        rw [List.map_append, List.map_singleton]
        exact atI_last _ _
      refine ⟨none, ?_, fun t h1 h2 => hv.under hm t h1 (by omega)⟩
      rw [whileS_step, ← hC]
      simp [hlast, asB, show ¬ a ≤ most by omega]
      rfl
    | succ d ih =>
      intro l a x hv hd
      have hlast : atI (l.map PyData.int) (-1) = some (.int a) := by
        obtain ⟨r, rfl⟩ := hv.last
        rw [List.map_append, List.map_singleton]
        exact atI_last _ _
      by_cases ham : a ≤ most
      · by_cases hfa : f a = a
        · refine ⟨some l, ?_, a, hv, hfa, ham⟩
          rw [whileS_step, ← hC, ← hB]
          simp [hlast, asB, ham, hnd, hfa]
          rfl
        · have hge : a < f a := by
            have : a ≤ f a := by
              cases hv with
              | one => exact hm 1 _ h1
              | more hv' hlt => exact hm _ _ (Int.le_of_lt hlt)
            omega
          have hlen := hv.len h1
          obtain ⟨r, h3, h4⟩ := ih (l ++ [f a]) (f a) (some (.int (f a))) (hv.more hge) (by omega)
          refine ⟨r, ?_, h4⟩
          rw [whileS_step]
          rw [← h3]
          have hc : C [some (encEs es), some (encR rs), some (.int (n : Int)), some (.int h), some (.int most), some (.list (l.map .int)), x] = .ok true := by
            rw [← hC]
            simp [hlast, asB, ham]
          have hb : B [some (encEs es), some (encR rs), some (.int (n : Int)), some (.int h), some (.int most), some (.list (l.map .int)), x] = .nx [some (encEs es), some (encR rs), some (.int (n : Int)), some (.int h), some (.int most), some (.list ((l ++ [f a]).map .int)), some (.int (f a))] := by
            rw [← hB]
            simp [hlast, asB, hnd, hfa]
            omega
          rw [hc, hb]
          rfl
      · refine ⟨none, ?_, fun t h1 h2 => hv.under hm t h1 (by omega)⟩
        rw [whileS_step, ← hC]
        simp [hlast, asB, ham]
        rfl
  exact key (most - f 1 + 1).toNat [f 1] (f 1) none .one (by omega)
end L2.DL
set_option maxHeartbeats 2000000
namespace L2.DL
open PySem PySem.Spec PyProof.Rows

theorem often_mono {e : Er} (he : FineE e) {s t : Int} (h : s ≤ t) : often e s ≤ often e t := by
  unfold often
  exact Int.ediv_le_ediv (by have := he.every; omega) (by omega)
theorem often_nonneg {e : Er} (he : FineE e) {t : Int} (h : 0 ≤ t) : 0 ≤ often e t := by
  unfold often
  have := he.every
  have := he.late
  exact Int.ediv_nonneg (by omega) (by omega)
theorem sum_mono {α : Type} {f g : α → Int} : ∀ {xs : List α}, (∀ x ∈ xs, f x ≤ g x) → (xs.map f).sum ≤ (xs.map g).sum
  | [], _ => Int.le_refl _
  | x :: xs, h => by
    simp only [List.map_cons, List.sum_cons]
    have h1 := h x List.mem_cons_self
    have h2 := sum_mono fun y hy => h y (List.mem_cons_of_mem _ hy)
    omega
theorem sum_nonneg {α : Type} {f : α → Int} {xs : List α} (h : ∀ x ∈ xs, 0 ≤ f x) : 0 ≤ (xs.map f).sum := by
  have z := sum_mono (f := fun _ => 0) (g := f) h
  have : ∀ xs : List α, (xs.map fun _ => (0 : Int)).sum = 0 := by
    intro xs
    induction xs with
    | nil => rfl
    | cons a r ih => simp only [List.map_cons, List.sum_cons, ih]; rfl
  rw [this] at z
  exact z
theorem need_mono {es : List Er} (he : FineEs es) (rs : List Nat) (n : Nat) (h : Int) {s t : Int} (hst : s ≤ t) : need es rs n h s ≤ need es rs n h t := by
  unfold need needs
  have := sum_mono (f := fun o => often (E es o) s * work (E es o)) (g := fun o => often (E es o) t * work (E es o)) (xs := rs.take (rs.idxOf n)) fun o _ =>
    Int.mul_le_mul_of_nonneg_right (often_mono (he.at o) hst) (by have := work_bounds (he.at o); omega)
  omega
theorem needs_nonneg {es : List Er} (he : FineEs es) (rs : List Nat) (n : Nat) {t : Int} (h : 0 ≤ t) : 0 ≤ (needs es rs n t).sum :=
  sum_nonneg fun o _ => Int.mul_nonneg (often_nonneg (he.at o) h) (by have := work_bounds (he.at o); omega)
theorem hold_nonneg (es : List Er) (rs : List Nat) (n : Nat) : 0 ≤ hold es rs n := (foldl_max_le _ 0).1
theorem need_pos {es : List Er} (he : FineEs es) (rs : List Nat) (n : Nat) {h : Int} (h0 : 0 ≤ h) : 1 ≤ need es rs n h 1 := by
  have h1 := needs_nonneg he rs n (t := 1) (by omega)
  have h2 := work_bounds (he.at n)
  unfold need
  omega
/-- the told row's last one is the least time that fits -/
theorem lngH_of {es : List Er} {rs : List Nat} {n : Nat} {h : Int} (he : FineEs es) (h0 : 0 ≤ h) {r : Option (List Int)} (hr : LvR (need es rs n h) ((E es n).every - (E es n).late) r) :
    r.bind List.getLast? = lngH es rs n h := by
  have hp := need_pos he rs n h0
  have hm := fun s t => need_mono he rs n h (s := s) (t := t)
  unfold lngH
  generalize hM : (E es n).every - (E es n).late = most at *
  cases r with
  | none =>
    have : (List.range most.toNat).find? (fun (i : Nat) => decide (need es rs n h (1 + (i : Int)) ≤ 1 + (i : Int))) = none := by
      rw [List.find?_eq_none]
      intro i hi
      have hi := List.mem_range.mp hi
      have := hr (1 + (i : Int)) (by omega) (by omega)
      simp
      omega
    rw [this]
    rfl
  | some l =>
    obtain ⟨a, hv, hfa, ham⟩ := hr
    have ha := hv.pos hp
    have : (List.range most.toNat).find? (fun (i : Nat) => decide (need es rs n h (1 + (i : Int)) ≤ 1 + (i : Int))) = some (a - 1).toNat := by
      rw [List.find?_eq_some_iff_getElem]
      refine ⟨?_, (a - 1).toNat, by rw [List.length_range]; omega, by simp, ?_⟩
      · have : 1 + (((a - 1).toNat : Nat) : Int) = a := by omega
        rw [this, hfa]
        simp
      · intro j hj
        have := hv.under hm (1 + (j : Int)) (by omega) (by omega)
        simp
        omega
    rw [this]
    obtain ⟨p, rfl⟩ := hv.last
    show (p ++ [a]).getLast? = some (1 + (((a - 1).toNat : Nat) : Int))
    have : 1 + (((a - 1).toNat : Nat) : Int) = a := by omega
    rw [this, List.getLast?_append]
    rfl
theorem levels_of_ok {es : List Er} {rs : List Nat} (he : FineEs es) (hr : Rk es rs) {n : Nat} (hn : n ∈ rs) :
    ∃ r, m_levels_of [encEs es, encR rs, encN n] = .ok (encL r) ∧ LvR (need es rs n (hold es rs n)) ((E es n).every - (E es n).late) r := by
  have h0 := hold_nonneg es rs n
  have hh := hold_of_ok he hr hn
  obtain ⟨r, h1, h2⟩ := levels_with_ok he hr hn (hold es rs n) (need_pos he rs n h0) fun s t => need_mono he rs n _
  refine ⟨r, ?_, h2⟩
  simp [m_levels_of, runD_ap, hh, h1]
theorem longest_of_ok {es : List Er} {rs : List Nat} (he : FineEs es) (hr : Rk es rs) {n : Nat} (hn : n ∈ rs) : m_longest_of [encEs es, encR rs, encN n] = .ok (encO (lng es rs n)) := by
  obtain ⟨r, h1, h2⟩ := levels_of_ok he hr hn
  have h3 := lngH_of he (hold_nonneg es rs n) h2
  have hl : m_last_of [encL r] = .ok (encO (lng es rs n)) := by
    cases r with
    | none =>
      have h3 : none = lng es rs n := h3
      rw [← h3]
      simp [m_last_of, runD_ap, encL, asB, encO]
    | some l =>
      obtain ⟨a, hv, _, _⟩ := h2
      obtain ⟨p, rfl⟩ := hv.last
      have h3 : (p ++ [a]).getLast? = lng es rs n := h3
      have hla : atI (p.map PyData.int ++ [PyData.int a]) (-1) = some (.int a) := atI_last _ _
      rw [List.getLast?_append] at h3
      rw [← h3]
      simp [m_last_of, runD_ap, encL, asB, encO, hla]
  simp [m_longest_of, runD_ap, h1, hl]
theorem longest_ok {es : List Er} {rs : List Nat} (he : OkEs es) (hr : OkR es.length rs) {n : Nat} (hn : n < es.length) : m_longest [encEs es, encR rs, encN n] = .ok (encO (lng es rs n)) := by
  simp [m_longest, runD_ap, need_ranks_ok he hr, need_errand_ok hn, longest_of_ok he.fine (hr.rk he.len.2) (hr.mem hn)]
theorem hold_ok {es : List Er} {rs : List Nat} (he : OkEs es) (hr : OkR es.length rs) {n : Nat} (hn : n < es.length) : m_hold [encEs es, encR rs, encN n] = .ok (.int (hold es rs n)) := by
  simp [m_hold, runD_ap, need_ranks_ok he hr, need_errand_ok hn, hold_of_ok he.fine (hr.rk he.len.2) (hr.mem hn)]
theorem levels_ok {es : List Er} {rs : List Nat} (he : OkEs es) (hr : OkR es.length rs) {n : Nat} (hn : n < es.length) :
    ∃ r, m_levels [encEs es, encR rs, encN n] = .ok (encL r) ∧ LvR (need es rs n (hold es rs n)) ((E es n).every - (E es n).late) r := by
  obtain ⟨r, h1, h2⟩ := levels_of_ok he.fine (hr.rk he.len.2) (hr.mem hn)
  refine ⟨r, ?_, h2⟩
  simp [m_levels, runD_ap, need_ranks_ok he hr, need_errand_ok hn, h1]
/-- in time -/
def inT (es : List Er) (rs : List Nat) (n : Nat) : Bool := match lng es rs n with
  | none => false
  | some t => decide (t ≤ (E es n).due)
theorem is_in_time_ok {es : List Er} {rs : List Nat} (he : FineEs es) (hr : Rk es rs) {n : Nat} (hn : n ∈ rs) : m_is_in_time [encEs es, encR rs, encN n] = .ok (.bool (inT es rs n)) := by
  have hix := oIx_encEs (hr.lt n hn)
  have h1 := longest_of_ok he hr hn
  unfold inT
  simp only [encN] at h1 hix ⊢
  cases e : lng es rs n <;> simp [m_is_in_time, runD_ap, h1, e, encO, asB, hix]
theorem law_in_time_ok {es : List Er} {rs : List Nat} (he : FineEs es) (hr : Rk es rs) {n : Nat} (hn : n ∈ rs) : m__law_in_time [encEs es, encR rs, encN n] = .ok (.bool (inT es rs n)) := by
  have hix := oIx_encEs (hr.lt n hn)
  have h1 := law_longest_ok he hr hn
  unfold inT
  simp only [encN] at h1 hix ⊢
  cases e : lng es rs n <;> simp [m__law_in_time, runD_ap, h1, e, encO, asB, hix]
theorem in_time_ok {es : List Er} {rs : List Nat} (he : OkEs es) (hr : OkR es.length rs) : m_in_time [encEs es, encR rs] = .ok (.list (((List.range es.length).filter (inT es rs)).map encN)) := by
  have hl := he.len
  have hb : inB (es.length : Int) := inB_nat (by omega)
  have hc : compD (.one 2) (eB (eCall m_is_in_time (aCons (eVar 0) (aCons (eVar 1) (aCons (eVar 2) aNil))))) (eVar 2) [some (encEs es), some (encR rs), none] ((List.range es.length).map encN) = .ok (((List.range es.length).filter (inT es rs)).map encN) :=
    compD_enc encN _ encN _ fun k hk => by
      have hk := List.mem_range.mp hk
      refine ⟨_, rfl, ?_, fun _ => rfl⟩
      simp [is_in_time_ok he.fine (hr.rk hl.2) (hr.mem hk), asB]
  simp [m_in_time, runD_ap, need_ranks_ok he hr, hb, rangeD_encN, show es.length < 16777216 by omega, hc]
end L2.DL
set_option maxHeartbeats 2000000
namespace L2.DL
open PySem PySem.Spec PyProof.Rows

/-! ### drawing -/
abbrev encS (ns : List Int) : PyData := .list (ns.map .int)
def cellAt (ns : List Int) (k : Int) : Int := if k < (ns.length : Int) then ns.getD k.toNat 0 else if ns = [] then 0 else ns.getD (k % (ns.length : Int)).toNat 0 * 31 + k
theorem atI_ints {ns : List Int} {k : Int} (h0 : 0 ≤ k) (h : k < ns.length) : atI (ns.map PyData.int) k = some (.int (ns.getD k.toNat 0)) := by
  obtain ⟨m, rfl⟩ : ∃ m : Nat, k = (m : Int) := ⟨k.toNat, by omega⟩
  refine atI_nat ?_
  rw [Int.toNat_natCast, List.getElem?_map, List.getD_eq_getElem?_getD]
  have : m < ns.length := by omega
  rw [List.getElem?_eq_getElem this]
  rfl
theorem cell_at_ok (ns : List Int) {k : Int} (h0 : 0 ≤ k) : m__law_cell_at [encS ns, .int k] = .ok (.int (cellAt ns k)) := by
  unfold cellAt
  by_cases h1 : k < (ns.length : Int)
  · have h2 := atI_ints h0 h1
    simp [m__law_cell_at, runD_ap, encS, h1, h2, asB]
  · have heq : oEq (.list (ns.map PyData.int)) (.list []) = some (.bool (decide (ns = []))) := by
      unfold oEq
      have l1 : SeqAt.shaped (.list (ns.map PyData.int)) = true := (lay_ints 0 ns).shaped
      have l2 : SeqAt.shaped (.list []) = true := (lay_ints 0 []).shaped
      rw [if_pos ⟨l1, l2⟩]
      cases ns <;> rfl
    by_cases h2 : ns = []
    · subst h2
      simp at heq h1
      simp [m__law_cell_at, runD_ap, encS, heq, asB, show ¬ k < 0 by omega]
    · have hpos : 0 < (ns.length : Int) := by
        cases ns with
        | nil => exact absurd rfl h2
        | cons a r => simp
      have hposN : 0 < ns.length := by omega
      have h3 := atI_ints (ns := ns) (k := k % (ns.length : Int)) (Int.emod_nonneg _ (by omega)) (Int.emod_lt_of_pos _ hpos)
      generalize ns.getD (k % (ns.length : Int)).toNat 0 = v at h3 ⊢
      simp [m__law_cell_at, runD_ap, encS, heq, asB, h1, h2, hposN, h3]
def mix (ns : List Int) (k many : Int) : Int := (((cellAt ns k + 7919 * k + 1) * 48271 % 2147483647) * ((cellAt ns k + 7919 * k + 1) * 48271 % 2147483647) + 7 * ((cellAt ns k + 7919 * k + 1) * 48271 % 2147483647) + k) % 2147483629 % many
theorem mixed_ok (ns : List Int) {k many : Int} (h0 : 0 ≤ k) (h1 : 0 < many) : m__law_mixed [encS ns, .int k, .int many] = .ok (.int (mix ns k many)) := by
  have hc := cell_at_ok ns h0
  unfold mix
  simp only [m__law_mixed, runD_ap]
  simp [hc]
  generalize hd : (cellAt ns k + 7919 * k + 1) * 48271 % 2147483647 = d
  have h2 : 0 ≤ d := hd ▸ Int.emod_nonneg _ (by omega)
  have h3 : d < 2147483647 := hd ▸ Int.emod_lt_of_pos _ (by omega)
  simp [hd, h1, show -18446744073709551616 < d by omega, show d < 18446744073709551616 by omega]
theorem mix_nonneg (ns : List Int) (k : Int) {many : Int} (h : 0 < many) : 0 ≤ mix ns k many := Int.emod_nonneg _ (by omega)
theorem mix_lt (ns : List Int) (k : Int) {many : Int} (h : 0 < many) : mix ns k many < many := Int.emod_lt_of_pos _ h
end L2.DL
set_option maxHeartbeats 2000000
namespace L2.DL
open PySem PySem.Spec PyProof.Rows

structure DrawnE (top : Int) (e : Er) : Prop where
  every : 3 ≤ e.every ∧ e.every ≤ top + 2
  late : 0 ≤ e.late ∧ e.late ≤ 3 ∧ e.late ≤ e.every - 1
  due : 1 ≤ e.due ∧ e.due ≤ e.every - e.late
  parts : 1 ≤ e.parts.length ∧ e.parts.length ≤ 3
  part : ∀ p ∈ e.parts, 1 ≤ p.1 ∧ p.1 ≤ 4 ∧ ∀ t, p.2 = some t → t = 0 ∨ t = 1
  last : ∃ l, e.parts.getLast? = some (l, none)
theorem DrawnE.ok {top : Int} {e : Er} (h : DrawnE top e) (ht : top ≤ 58) : OkE e where
  every := by have := h.every; omega
  late := by have := h.late; omega
  due := h.due
  parts := by have := h.parts; omega
  part p hp := ⟨by have := h.part p hp; omega, fun t ht => by have := (h.part p hp).2.2 t ht; omega⟩
  last := h.last
theorem nx_toP {P : Res PyData → Prop} {r : SRes} {g : Sf} {Q : Env → Prop} (h : Nx r Q) (k : ∀ ρ, Q ρ → P (g ρ).toR) : P (r.andThen g).toR := by
  obtain ⟨ρ, rfl, q⟩ := h
  exact k ρ q
theorem tool_pick {j : Int} (h0 : 0 ≤ j) (h1 : j < 5) : ∃ o, atI [PyData.int 0, .int 1, .int 1, .int 0, .none] j = some (encO o) ∧ ∀ t, o = some t → t = 0 ∨ t = 1 := by
  obtain h | h | h | h | h : j = 0 ∨ j = 1 ∨ j = 2 ∨ j = 3 ∨ j = 4 := by omega
  · subst h; exact ⟨some 0, rfl, fun t e => Or.inl (Option.some.inj e).symm⟩
  · subst h; exact ⟨some 1, rfl, fun t e => Or.inr (Option.some.inj e).symm⟩
  · subst h; exact ⟨some 1, rfl, fun t e => Or.inr (Option.some.inj e).symm⟩
  · subst h; exact ⟨some 0, rfl, fun t e => Or.inl (Option.some.inj e).symm⟩
  · subst h; exact ⟨none, rfl, fun t e => nomatch e⟩
theorem law_errand_ok (ns : List Int) {a top : Int} (ha : 0 ≤ a) (ht : 0 < top) : ∃ e, DrawnE top e ∧ m__law_errand [encS ns, .int a, .int top, .bool true] = .ok (encE e) := by
  have m1 := mixed_ok ns (k := a) (many := top) ha ht
  have m2 := mixed_ok ns (k := a + 1) (many := 4) (by omega) (by omega)
  have m3 := mixed_ok ns (k := a + 2) (many := 3) (by omega) (by omega)
  have m4 := mixed_ok ns (k := a + 1) (many := 3) (by omega) (by omega)
  have m5 := fun many => mixed_ok ns (k := a + 2) (many := many) (by omega)
  have m6 := mixed_ok ns (k := a + 3) (many := 3) (by omega) (by omega)
  have m7 := mixed_ok ns (k := a + 6) (many := 3) (by omega) (by omega)
  have v1 := mix_nonneg ns a ht
  have w1 := mix_lt ns a ht
  have v2 := mix_nonneg ns (a + 1) (show 0 < 4 by omega)
  have w2 := mix_lt ns (a + 1) (show 0 < 4 by omega)
  have v6 := mix_nonneg ns (a + 3) (show 0 < 3 by omega)
  have w6 := mix_lt ns (a + 3) (show 0 < 3 by omega)
  have v7 := mix_nonneg ns (a + 6) (show 0 < 3 by omega)
  have w7 := mix_lt ns (a + 6) (show 0 < 3 by omega)
  have n5 := fun many h => mix_nonneg ns (a + 2) (many := many) h
  have l5 := fun many h => mix_lt ns (a + 2) (many := many) h
  generalize mix ns a top = x1 at *
  generalize mix ns (a + 1) 4 = x2 at *
  generalize mix ns (a + 2) 3 = x3 at *
  generalize mix ns (a + 1) 3 = x4 at *
  generalize mix ns (a + 3) 3 = x6 at *
  generalize mix ns (a + 6) 3 = x7 at *
  obtain ⟨late, hlate, hlt⟩ : ∃ late : Int, (0 ≤ late ∧ late ≤ 3 ∧ late ≤ 3 + x1 - 1) ∧ (if 3 + x1 - 1 < x2 * (if (x3 == 0) = true then 1 else 0) then 3 + x1 - 1 else x2 * (if (x3 == 0) = true then 1 else 0)) = late := by
    refine ⟨_, ?_, rfl⟩
    by_cases h : (x3 == 0) = true
    · rw [if_pos h]; split <;> omega
    · rw [if_neg h]; split <;> omega
  obtain ⟨late0, hl0⟩ : ∃ l, l = x2 * (if (x3 == 0) = true then 1 else 0) := ⟨_, rfl⟩
  rw [← hl0] at hlt
  obtain ⟨due, hdue, hd0⟩ : ∃ due : Int, (1 ≤ due ∧ due ≤ 3 + x1 - late) ∧ due = (if (x4 == 0) = true then 3 + x1 - late - mix ns (a + 2) (3 + x1 - late) else 3 + x1 - late) := by
    refine ⟨_, ?_, rfl⟩
    have := n5 (3 + x1 - late) (by omega)
    have := l5 (3 + x1 - late) (by omega)
    split <;> omega
  have hm5 := m5 (3 + x1 - late) (by omega)
  simp only [m__law_errand, runD_ap, seqS_ap, setS_ap, startD_ap, List.map_cons, List.map_nil, List.length_cons, List.length_nil, List.cons_append, List.nil_append, List.replicate, wipeD_nil, eOp_ap, eC_ap, eCall_ap, aCons_ap, aNil_ap, eVar_succ, eVar_zero, Res.bind_ok, m1, m2, m3, m4, m6, m7, Res.of_some, oAdd_int, oSub_int, toS_ok, andThen_nx, List.set_cons_succ, List.set_cons_zero, eCall1_ap, eCall2_ap, oEq_int, oInt_bool, oMul_int,
    if_pos (show (-(2 ^ 64) < x2 ∧ x2 < 2 ^ 64) ∨ (-(2 ^ 64) < (if (x3 == 0) = true then (1 : Int) else 0) ∧ (if (x3 == 0) = true then (1 : Int) else 0) < 2 ^ 64) from Or.inl ⟨by omega, by omega⟩), ← hl0, oMin_int, hlt, ifS_ap, eB_ap, asB, hm5]
  have hif : (if (x4 == 0) = true then SRes.nx [some (encS ns), some (.int a), some (.int top), some (.bool true), some (.int (3 + x1)), some (.int late), some (.int (3 + x1 - late - mix ns (a + 2) (3 + x1 - late))), none, none, none] else nxS [some (encS ns), some (.int a), some (.int top), some (.bool true), some (.int (3 + x1)), some (.int late), some (.int (3 + x1 - late)), none, none, none]) = .nx [some (encS ns), some (.int a), some (.int top), some (.bool true), some (.int (3 + x1)), some (.int late), some (.int due), none, none, none] := by
    rw [hd0]; split <;> rfl
  rw [hif, andThen_nx]
  simp [-forS_ap]
  refine nx_toP (P := fun v => ∃ e, DrawnE top e ∧ v = .ok (encE e)) (for_nx encN (fun pre ρ => ∃ (ps : List (Int × Option Int)) (y z : Option PyData), ρ = [some (encS ns), some (.int a), some (.int top), some (.bool true), some (.int (3 + x1)), some (.int late), some (.int due), some (.list (ps.map encP)), y, z] ∧ ps.length = pre.length ∧ ∀ p ∈ ps, 1 ≤ p.1 ∧ p.1 ≤ 4 ∧ ∀ t, p.2 = some t → t = 0 ∨ t = 1) (List.range x6.toNat) ?_ ⟨[], none, none, rfl, rfl, by simp⟩ fun pre i post ρ hi ⟨ps, y, z, hρ, hps, hgood⟩ => ?_) fun ρ ⟨ps, y, z, hρ, hps, hgood⟩ => ?_
  · have hb : inB x6 := ⟨by omega, by omega⟩
    obtain ⟨m, rfl⟩ : ∃ m : Nat, x6 = (m : Int) := ⟨x6.toNat, by omega⟩
    simp [m6, hb, rangeD_encN]
  · subst hρ
    have hlen : pre.length < 3 := by
      have := congrArg List.length hi
      simp at this
      omega
    have hc := mixed_ok ns (k := a + 4 + (i : Int)) (many := 40) (by omega) (by omega)
    have hc0 := mix_nonneg ns (a + 4 + (i : Int)) (show 0 < 40 by omega)
    have hc1 := mix_lt ns (a + 4 + (i : Int)) (show 0 < 40 by omega)
    generalize mix ns (a + 4 + (i : Int)) 40 = cell at *
    obtain ⟨o, ho, ho2⟩ := tool_pick (j := cell / 4 % 5) (Int.emod_nonneg _ (by omega)) (Int.emod_lt_of_pos _ (by omega))
    have hp0 := Int.emod_nonneg cell (show (4 : Int) ≠ 0 by omega)
    have hp1 := Int.emod_lt_of_pos cell (show (0 : Int) < 4 by omega)
    refine ⟨_, rfl, ?_⟩
    have hl2 : ps.length < 16777216 := by omega
    simp only [encN] at hc ⊢
    refine ⟨[some (encS ns), some (.int a), some (.int top), some (.bool true), some (.int (3 + x1)), some (.int late), some (.int due), some (.list ((ps ++ [(1 + cell % 4, o)]).map encP)), some (.int (i : Int)), some (.int cell)], by simp [hc, ho, asB, hl2, encP], ps ++ [(1 + cell % 4, o)], some (.int (i : Int)), some (.int cell), rfl, by simp [hps], fun p hp => ?_⟩
    rcases List.mem_append.mp hp with hp | hp
    · exact hgood p hp
    · rw [List.mem_singleton] at hp
      subst hp
      exact ⟨by show 1 ≤ 1 + cell % 4; omega, by show 1 + cell % 4 ≤ 4; omega, ho2⟩
  · subst hρ
    rw [List.length_range] at hps
    have hl2 : ps.length ≤ 16777215 := by omega
    refine ⟨⟨3 + x1, due, late, ps ++ [(1 + x7, none)]⟩, ⟨⟨by show 3 ≤ 3 + x1; omega, by show 3 + x1 ≤ top + 2; omega⟩, hlate, hdue, ⟨by simp, by simp; omega⟩, fun p hp => ?_, ⟨1 + x7, by simp⟩⟩, ?_⟩
    · rcases List.mem_append.mp hp with hp | hp
      · exact hgood p hp
      · rw [List.mem_singleton] at hp
        subst hp
        exact ⟨by show 1 ≤ 1 + x7; omega, by show 1 + x7 ≤ 4; omega, fun t h => nomatch h⟩
    · simp [m7, hl2, encE, encP, encO]
theorem law_errands_ok (ns : List Int) {a most top : Int} (ha : 0 ≤ a) (hm : 0 < most) (hm2 : most ≤ 6) (ht : 0 < top) : ∃ es, (1 ≤ es.length ∧ (es.length : Int) ≤ most) ∧ (∀ e ∈ es, DrawnE top e) ∧ m__law_errands [encS ns, .int a, .int most, .int top, .bool true] = .ok (encEs es) := by
  have m1 := mixed_ok ns (k := a) (many := most) ha hm
  have v1 := mix_nonneg ns a hm
  have w1 := mix_lt ns a hm
  generalize mix ns a most = x at *
  obtain ⟨m, rfl⟩ : ∃ m : Nat, x = (m : Int) := ⟨x.toNat, by omega⟩
  obtain ⟨f, hf⟩ := Classical.axiomOfChoice fun k : Nat => law_errand_ok ns (a := a + 1 + 7 * (k : Int)) (top := top) (by omega) ht
  have hb : inB (1 + (m : Int)) := ⟨by omega, by omega⟩
  have hr : rangeD 0 (1 + (m : Int)) = (List.range (1 + m)).map encN := by
    rw [← rangeD_encN]
    congr 1
  have hc : compD (.one 6) teYes (eCall m__law_errand (aCons (eVar 0) (aCons (eOp oAdd (eOp oAdd (eVar 1) (eC (.int 1))) (eOp oMul (eC (.int 7)) (eVar 6))) (aCons (eVar 3) (aCons (eVar 4) aNil))))) [some (encS ns), some (.int a), some (.int most), some (.int top), some (.bool true), some (.int (1 + (m : Int))), none] ((List.range (1 + m)).map encN) = .ok ((List.range (1 + m)).map fun k => encE (f k)) :=
    compD_map encN _ _ fun k hk => by
      refine ⟨_, rfl, ?_⟩
      have := (hf k).2
      simp [encN, this]
  refine ⟨(List.range (1 + m)).map f, ⟨by rw [List.length_map, List.length_range]; omega, by rw [List.length_map, List.length_range]; omega⟩, fun e he => ?_, ?_⟩
  · obtain ⟨k, _, rfl⟩ := List.mem_map.mp he
    exact (hf k).1
  · simp [m__law_errands, runD_ap, m1, hb, hr, show 1 + m < 16777216 by omega, hc, encEs]
theorem erase_map {α β : Type} (f : α → β) : ∀ (xs : List α) (j : Nat), (xs.map f).eraseIdx j = (xs.eraseIdx j).map f
  | [], _ => by simp
  | x :: xs, 0 => rfl
  | x :: xs, j + 1 => by
    simp only [List.map_cons, List.eraseIdx_cons_succ, erase_map f xs j]
theorem erase_perm {α : Type} : ∀ (xs : List α) (j : Nat) (h : j < xs.length), (xs[j] :: xs.eraseIdx j).Perm xs
  | x :: xs, 0, _ => List.Perm.refl _
  | x :: xs, j + 1, h => by
    have ih := erase_perm xs j (by simpa using h)
    rw [List.eraseIdx_cons_succ, List.getElem_cons_succ]
    exact (List.Perm.swap _ _ _).trans (ih.cons x)
theorem law_ranks_ok (ns : List Int) {a : Int} (ha : 0 ≤ a) {n : Nat} (hn : n ≤ 6) : ∃ rs, OkR n rs ∧ m__law_ranks [encS ns, .int a, .int (n : Int)] = .ok (encR rs) := by
  have hb : inB (n : Int) := inB_nat (by omega)
  simp only [m__law_ranks, runD_ap]
  simp [-forS_ap, hb, rangeD_encN]
  refine nx_toP (P := fun v => ∃ rs, OkR n rs ∧ v = .ok (encR rs)) (for_nx encN (fun pre ρ => ∃ (left made : List Nat) (y : Option PyData), ρ = [some (encS ns), some (.int a), some (.int (n : Int)), some (.list (left.map encN)), some (.list (made.map encN)), y] ∧ (made ++ left).Perm (List.range n) ∧ left.length + pre.length = n) (List.range n) ?_ ⟨List.range n, [], none, rfl, by simp, by simp⟩ fun pre i post ρ hi ⟨left, made, y, hρ, hp, hl⟩ => ?_) fun ρ ⟨left, made, y, hρ, hp, hl⟩ => ?_
  · simp [hb, rangeD_encN]
  · subst hρ
    have hlen : pre.length < n := by
      have := congrArg List.length hi
      simp at this
      omega
    have hpos : 0 < (left.length : Int) := by omega
    have hc := mixed_ok ns (k := a + (i : Int)) (many := (left.length : Int)) (by omega) hpos
    have hc0 := mix_nonneg ns (a + (i : Int)) hpos
    have hc1 := mix_lt ns (a + (i : Int)) hpos
    generalize mix ns (a + (i : Int)) (left.length : Int) = c at *
    obtain ⟨j, rfl⟩ : ∃ j : Nat, c = (j : Int) := ⟨c.toNat, by omega⟩
    have hj : j < left.length := by omega
    refine ⟨_, rfl, ?_⟩
    have hml : made.length < 16777216 := by
      have := hp.length_eq
      rw [List.length_append, List.length_range] at this
      omega
    have hbj : inB (j : Int) := inB_nat (by omega)
    have hix : ixN left.length (j : Int) = some j := by
      unfold ixN
      rw [if_pos (by omega), if_pos (by omega), Int.toNat_natCast]
    have hget : (left.map encN)[j]? = some (encN left[j]) := by rw [List.getElem?_map, List.getElem?_eq_getElem hj]; rfl
    have hml2 : made.length < 16777216 ∧ inB (j : Int) := ⟨hml, hbj⟩
    simp only [encN] at hc ⊢
    refine ⟨[some (encS ns), some (.int a), some (.int (n : Int)), some (.list ((left.eraseIdx j).map encN)), some (.list ((made ++ [left[j]]).map encN)), some (.int (i : Int))], ?_, left.eraseIdx j, made ++ [left[j]], some (.int (i : Int)), rfl, ?_, ?_⟩
    · simp [hc, hix, hj, hml, hbj, erase_map, encN]
    · refine List.Perm.trans ?_ hp
      rw [List.append_assoc]
      refine List.Perm.append_left _ ?_
      rw [List.singleton_append]
      exact erase_perm left j hj
    · rw [List.length_eraseIdx_of_lt hj, List.length_append, List.length_singleton]
      omega
  · subst hρ
    rw [List.length_range] at hl
    have : left = [] := List.eq_nil_of_length_eq_zero (by omega)
    subst this
    rw [List.append_nil] at hp
    exact ⟨made, hp, by simp [encR]⟩
end L2.DL
set_option maxHeartbeats 1000000
namespace L2.DL
open PySem PySem.Spec PyProof.Rows

/-! ### odd errands -/
theorem bt_bool (b : Bool) (lo hi : PyData) : m_between [.bool b, lo, hi] = .ok (.bool false) := by simp [m_between, runD_ap, m_is_whole]
theorem bt_str (b : Str) (lo hi : PyData) : m_between [.str b, lo, hi] = .ok (.bool false) := by simp [m_between, runD_ap, m_is_whole, show isaInt (.str b) = some (.bool false) from rfl]
theorem pt_len {ds : List PyData} (h : ds.length ≠ 2) (h2 : ds.length < 100) : m_is_part [.tuple ds] = .ok (.bool false) := by
  have : ¬ (ds.length : Int) = 2 := by omega
  simp [m_is_part, runD_ap, oNe, this]
theorem pt_int {i : Int} {x : PyData} (h : ¬ (1 ≤ i ∧ i ≤ 20)) : m_is_part [.tuple [.int i, x]] = .ok (.bool false) := by
  have hb := between_int i 1 20
  rw [decide_eq_false h] at hb
  simp [m_is_part, runD_ap, hb]
theorem pt_str {b : Str} {x : PyData} : m_is_part [.tuple [.str b, x]] = .ok (.bool false) := by
  simp [m_is_part, runD_ap, bt_str]
theorem pt_tool {i : Int} (h : ¬ (0 ≤ i ∧ i ≤ 3)) : m_is_part [.tuple [.int 1, .int i]] = .ok (.bool false) := by
  have hb := between_int 1 1 20
  rw [decide_eq_true (by omega)] at hb
  have hb2 := between_int i 0 3
  rw [decide_eq_false h] at hb2
  simp [m_is_part, runD_ap, hb, hb2]
theorem pt_toolB : m_is_part [.tuple [.int 1, .bool true]] = .ok (.bool false) := by
  have hb := between_int 1 1 20
  rw [decide_eq_true (by omega)] at hb
  simp [m_is_part, runD_ap, hb, bt_bool]
theorem pt_tool0 : m_is_part [.tuple [.int 1, .int 0]] = .ok (.bool true) := by
  have hb := between_int 1 1 20
  rw [decide_eq_true (by omega)] at hb
  have hb2 := between_int 0 0 3
  rw [decide_eq_true (by omega)] at hb2
  simp [m_is_part, runD_ap, hb, hb2]
theorem toBools_of (bs : List Bool) : oAll (.list (bs.map PyData.bool)) = some (.bool (bs.all id)) := by
  unfold oAll
  dsimp only
  rw [toBools_map]
  rfl
section
variable {e : Er}
/-- times are right, the parts are not -/
theorem er_parts (he : OkE e) {ps : List PyData} {bs : List Bool} (h1 : 1 ≤ ps.length) (h2 : ps.length ≤ 4)
    (hc : ∀ ρ0 : Option PyData, compD (.one 1) teYes (eCall m_is_part (aCons (eVar 1) aNil)) [ρ0, none] ps = .ok (bs.map PyData.bool)) (hf : bs.all id = false) :
    m_is_errand [.tuple [.int e.every, .int e.due, .int e.late, .tuple ps]] = .ok (.bool false) := by
  obtain ⟨k1, k2, k3, _, _, _⟩ := he
  have b1 := between_int e.every 2 60
  rw [decide_eq_true (by omega)] at b1
  have b2 : m_between [.int e.late, .int 0, .int (if e.every - 1 < 20 then e.every - 1 else 20)] = .ok (.bool true) := by
    rw [between_int, decide_eq_true]
    split <;> omega
  have b3 := between_int e.due 1 (e.every - e.late)
  rw [decide_eq_true (by omega)] at b3
  have ha := toBools_of bs
  rw [hf] at ha
  have c4 : (1 : Int) ≤ (ps.length : Int) := by omega
  have c5 : (ps.length : Int) ≤ 4 := by omega
  simp [m_is_errand, runD_ap, b1, b2, b3, c4, c5, show ps.length < 16777216 by omega, hc, ha]
theorem er_many (he : OkE e) {ps : List PyData} (h : ps.length = 0 ∨ (4 < ps.length ∧ ps.length < 100)) : m_is_errand [.tuple [.int e.every, .int e.due, .int e.late, .tuple ps]] = .ok (.bool false) := by
  obtain ⟨k1, k2, k3, _, _, _⟩ := he
  have b1 := between_int e.every 2 60
  rw [decide_eq_true (by omega)] at b1
  have b2 : m_between [.int e.late, .int 0, .int (if e.every - 1 < 20 then e.every - 1 else 20)] = .ok (.bool true) := by
    rw [between_int, decide_eq_true]
    split <;> omega
  have b3 := between_int e.due 1 (e.every - e.late)
  rw [decide_eq_true (by omega)] at b3
  rcases h with h | h
  · have : ¬ (1 : Int) ≤ (ps.length : Int) := by omega
    simp [m_is_errand, runD_ap, b1, b2, b3, this]
  · have c4 : (1 : Int) ≤ (ps.length : Int) := by omega
    have c5 : ¬ (ps.length : Int) ≤ 4 := by omega
    simp [m_is_errand, runD_ap, b1, b2, b3, c4, c5]
theorem er_notup (he : OkE e) {p : PyData} (h : isaTuple p = some (.bool false)) : m_is_errand [.tuple [.int e.every, .int e.due, .int e.late, p]] = .ok (.bool false) := by
  obtain ⟨k1, k2, k3, _, _, _⟩ := he
  have b1 := between_int e.every 2 60
  rw [decide_eq_true (by omega)] at b1
  have b2 : m_between [.int e.late, .int 0, .int (if e.every - 1 < 20 then e.every - 1 else 20)] = .ok (.bool true) := by
    rw [between_int, decide_eq_true]
    split <;> omega
  have b3 := between_int e.due 1 (e.every - e.late)
  rw [decide_eq_true (by omega)] at b3
  simp [m_is_errand, runD_ap, b1, b2, b3, h]
/-- the last part has a tool -/
theorem er_last (he : OkE e) : m_is_errand [.tuple [.int e.every, .int e.due, .int e.late, .tuple [.tuple [.int 1, .int 0]]]] = .ok (.bool false) := by
  obtain ⟨k1, k2, k3, _, _, _⟩ := he
  have b1 := between_int e.every 2 60
  rw [decide_eq_true (by omega)] at b1
  have b2 : m_between [.int e.late, .int 0, .int (if e.every - 1 < 20 then e.every - 1 else 20)] = .ok (.bool true) := by
    rw [between_int, decide_eq_true]
    split <;> omega
  have b3 := between_int e.due 1 (e.every - e.late)
  rw [decide_eq_true (by omega)] at b3
  have hx : atI [PyData.tuple [.int 1, .int 0]] (-1) = some (.tuple [.int 1, .int 0]) := rfl
  have hy : atI [PyData.int 1, .int 0] 1 = some (.int 0) := rfl
  have ha : oAll (.list [.bool true]) = some (.bool true) := rfl
  simp [m_is_errand, runD_ap, b1, b2, b3, compD, bindT, pt_tool0, ha, hx, hy]
theorem er_notup0 {d : PyData} (h : isaTuple d = some (.bool false)) : m_is_errand [d] = .ok (.bool false) := by simp [m_is_errand, runD_ap, h]
theorem er_len {ds : List PyData} (h : ds.length ≠ 4) (h2 : ds.length < 100) : m_is_errand [.tuple ds] = .ok (.bool false) := by
  have : ¬ (ds.length : Int) = 4 := by omega
  simp [m_is_errand, runD_ap, oNe, this]
theorem er_every {i : Int} {a b c : PyData} (h : ¬ (2 ≤ i ∧ i ≤ 60)) : m_is_errand [.tuple [.int i, a, b, c]] = .ok (.bool false) := by
  have hb := between_int i 2 60
  rw [decide_eq_false h] at hb
  simp [m_is_errand, runD_ap, hb]
theorem er_everyB {a b c : PyData} : m_is_errand [.tuple [.bool true, a, b, c]] = .ok (.bool false) := by
  simp [m_is_errand, runD_ap, bt_bool]
theorem er_late {i l : Int} {a c : PyData} (h1 : 2 ≤ i ∧ i ≤ 60) (h : ¬ (0 ≤ l ∧ l ≤ 20 ∧ l ≤ i - 1)) : m_is_errand [.tuple [.int i, a, .int l, c]] = .ok (.bool false) := by
  have hb := between_int i 2 60
  rw [decide_eq_true h1] at hb
  have b2 : m_between [.int l, .int 0, .int (if i - 1 < 20 then i - 1 else 20)] = .ok (.bool false) := by
    rw [between_int, decide_eq_false]
    split <;> omega
  simp [m_is_errand, runD_ap, hb, b2]
theorem er_due {i l u : Int} {c : PyData} (h1 : 2 ≤ i ∧ i ≤ 60) (h2 : 0 ≤ l ∧ l ≤ 20 ∧ l ≤ i - 1) (h : ¬ (1 ≤ u ∧ u ≤ i - l)) : m_is_errand [.tuple [.int i, .int u, .int l, c]] = .ok (.bool false) := by
  have hb := between_int i 2 60
  rw [decide_eq_true h1] at hb
  have b2 : m_between [.int l, .int 0, .int (if i - 1 < 20 then i - 1 else 20)] = .ok (.bool true) := by
    rw [between_int, decide_eq_true]
    split <;> omega
  have b3 := between_int u 1 (i - l)
  rw [decide_eq_false h] at b3
  simp [m_is_errand, runD_ap, hb, b2, b3]
theorem er_dueS {i l : Int} {u : Str} {c : PyData} (h1 : 2 ≤ i ∧ i ≤ 60) (h2 : 0 ≤ l ∧ l ≤ 20 ∧ l ≤ i - 1) : m_is_errand [.tuple [.int i, .str u, .int l, c]] = .ok (.bool false) := by
  have hb := between_int i 2 60
  rw [decide_eq_true h1] at hb
  have b2 : m_between [.int l, .int 0, .int (if i - 1 < 20 then i - 1 else 20)] = .ok (.bool true) := by
    rw [between_int, decide_eq_true]
    split <;> omega
  simp [m_is_errand, runD_ap, hb, b2, bt_str]
/-- what the law hands as an odd errand -/
def odds (e : Er) (last : PyData) : List PyData :=
  let v := PyData.int e.every
  let u := PyData.int e.due
  let l := PyData.int e.late
  let P := PyData.tuple (e.parts.map encP)
  [.tuple [v, u, l, P, .int 1], .tuple [v, u, l], .list [v, u, l, P], .none, .int 5, .tuple [.int 1, .int 1, .int 0, P], .tuple [.int 61, u, l, P],
   .tuple [.bool true, .int 1, .int 0, P], .tuple [v, .int 0, l, P], .tuple [v, .int (e.every - e.late + 1), l, P],
   .tuple [v, u, v, P], .tuple [.int 60, .int 1, .int 21, P], .tuple [v, u, .int (-1), P], .tuple [v, .str "1", l, P],
   .tuple [v, u, l, .tuple []], .tuple [v, u, l, .tuple (List.replicate 5 last)], .tuple [v, u, l, .list [last]], .tuple [v, u, l, .tuple [.tuple [.int 0, .none]]], .tuple [v, u, l, .tuple [.tuple [.int 21, .none]]], .tuple [v, u, l, .tuple [.tuple [.str "1", .none]]],
   .tuple [v, u, l, .tuple [.tuple [.int 1, .int 4], last]], .tuple [v, u, l, .tuple [.tuple [.int 1, .int (-1)], last]],
   .tuple [v, u, l, .tuple [.tuple [.int 1, .int 0]]], .tuple [v, u, l, .tuple [.tuple [.int 1, .bool true], last]], .tuple [v, u, l, .tuple [.tuple [.int 1], last]], .tuple [v, u, l, .none]]
theorem odds_len (last : PyData) : (odds e last).length = 26 := rfl
theorem odds_all (he : OkE e) {last d : PyData} (hp : m_is_part [last] = .ok (.bool true)) (h : d ∈ odds e last) : m_is_errand [d] = .ok (.bool false) := by
  have k1 := he.every
  have k2 := he.late
  have k3 := he.due
  have one : ∀ {p : PyData}, m_is_part [p] = .ok (.bool false) → ∀ ρ0 : Option PyData, compD (.one 1) teYes (eCall m_is_part (aCons (eVar 1) aNil)) [ρ0, none] [p] = .ok ([false].map PyData.bool) := fun {p} hp ρ0 => by simp [compD, bindT, hp]
  have two : ∀ {p : PyData}, m_is_part [p] = .ok (.bool false) → ∀ ρ0 : Option PyData, compD (.one 1) teYes (eCall m_is_part (aCons (eVar 1) aNil)) [ρ0, none] [p, last] = .ok ([false, true].map PyData.bool) := fun {p} hp0 ρ0 => by simp [compD, bindT, hp0, hp]
  simp only [odds, List.mem_cons, List.not_mem_nil, or_false] at h
  rcases h with h | h | h | h | h | h | h | h | h | h | h | h | h | h | h | h | h | h | h | h | h | h | h | h | h | h
  all_goals rw [h]
  · exact er_len (by simp) (by simp)
  · exact er_len (by simp) (by simp)
  · exact er_notup0 rfl
  · exact er_notup0 rfl
  · exact er_notup0 rfl
  · exact er_every (by omega)
  · exact er_every (by omega)
  · exact er_everyB
  · exact er_due k1 k2 (by omega)
  · exact er_due k1 k2 (by omega)
  · exact er_late k1 (by omega)
  · exact er_late (by omega) (by omega)
  · exact er_late k1 (by omega)
  · exact er_dueS k1 k2
  · exact er_many he (.inl rfl)
  · exact er_many he (.inr (by simp))
  · exact er_notup he rfl
  · exact er_parts he (by simp) (by simp) (one (pt_int (by omega))) rfl
  · exact er_parts he (by simp) (by simp) (one (pt_int (by omega))) rfl
  · exact er_parts he (by simp) (by simp) (one pt_str) rfl
  · exact er_parts he (by simp) (by simp) (two (pt_tool (by omega))) rfl
  · exact er_parts he (by simp) (by simp) (two (pt_tool (by omega))) rfl
  · exact er_last he
  · exact er_parts he (by simp) (by simp) (two pt_toolB) rfl
  · exact er_parts he (by simp) (by simp) (two (pt_len (by simp) (by simp))) rfl
  · exact er_notup he rfl
end
end L2.DL
set_option maxHeartbeats 1000000
namespace L2.DL
open PySem PySem.Spec PyProof.Rows

/-! ### texts as lists of code points -/
def sx (l : List Nat) : Str := ⟨l.toArray⟩
@[simp] theorem sx_list (l : List Nat) : (sx l).cps.toList = l := by simp [sx]
theorem sx_of (z : Str) : sx z.cps.toList = z := by cases z; simp [sx]
@[simp] theorem sx_len (l : List Nat) : (sx l).length = l.length := by simp [sx, Str.length]
theorem sx_app (a b : List Nat) : sx a ++ sx b = sx (a ++ b) := by
  show Str.append (sx a) (sx b) = _
  simp [sx, Str.append]
theorem sx_inj {a b : List Nat} : sx a = sx b ↔ a = b := ⟨fun h => by rw [← sx_list a, h, sx_list], fun h => by rw [h]⟩
theorem sx_one (c : Nat) : (⟨#[c]⟩ : Str) = sx [c] := rfl
/-! split, join by one sign -/
def splitL (c : Nat) : List Nat → List (List Nat)
  | [] => [[]]
  | x :: r => if x = c then [] :: splitL c r else match splitL c r with
    | [] => [[x]]
    | h :: t => (x :: h) :: t
def joinL (c : Nat) : List (List Nat) → List Nat
  | [] => []
  | [w] => w
  | w :: r => w ++ c :: joinL c r
theorem joinL_cons {c : Nat} {w : List Nat} {r : List (List Nat)} (h : r ≠ []) : joinL c (w :: r) = w ++ c :: joinL c r := by
  cases r with
  | nil => exact absurd rfl h
  | cons a t => rfl
theorem splitL_ne (c : Nat) : ∀ l : List Nat, splitL c l ≠ []
  | [] => by simp [splitL]
  | x :: r => by
    unfold splitL
    split
    · simp
    · split <;> simp
theorem splitL_word {c : Nat} : ∀ (w l : List Nat), c ∉ w → splitL c (w ++ c :: l) = w :: splitL c l
  | [], l, _ => by simp [splitL]
  | x :: w, l, h => by
    have hx : x ≠ c := fun z => h (by simp [z])
    have ih := splitL_word w l (fun z => h (List.mem_cons_of_mem _ z))
    show splitL c (x :: (w ++ c :: l)) = _
    rw [splitL, if_neg hx, ih]
theorem splitL_last {c : Nat} : ∀ w : List Nat, c ∉ w → splitL c w = [w]
  | [], _ => rfl
  | x :: w, h => by
    have hx : x ≠ c := fun z => h (by simp [z])
    rw [splitL, if_neg hx, splitL_last w (fun z => h (List.mem_cons_of_mem _ z))]
theorem splitL_joinL {c : Nat} : ∀ ws : List (List Nat), ws ≠ [] → (∀ w ∈ ws, c ∉ w) → splitL c (joinL c ws) = ws
  | [], h, _ => absurd rfl h
  | [w], _, h => splitL_last w (h w (by simp))
  | w :: v :: r, _, h => by
    rw [joinL_cons (by simp), splitL_word w _ (h w (by simp)), splitL_joinL (v :: r) (by simp) fun x hx => h x (List.mem_cons_of_mem _ hx)]
theorem joinL_splitL {c : Nat} : ∀ l : List Nat, joinL c (splitL c l) = l
  | [] => rfl
  | x :: r => by
    unfold splitL
    by_cases hx : x = c
    · rw [if_pos hx, joinL_cons (splitL_ne c r), joinL_splitL r, hx]
      rfl
    · rw [if_neg hx]
      have ih := joinL_splitL (c := c) r
      cases h : splitL c r with
      | nil => exact absurd h (splitL_ne c r)
      | cons a t =>
        rw [h] at ih
        cases t with
        | nil => show x :: a = _; rw [show a = r from ih]
        | cons b t =>
          rw [joinL_cons (by simp)] at ih ⊢
          simp [ih]
theorem splitL_free {c : Nat} : ∀ (l : List Nat), ∀ w ∈ splitL c l, c ∉ w
  | [], w, h => by simp [splitL] at h; simp [h]
  | x :: r, w, h => by
    unfold splitL at h
    by_cases hx : x = c
    · rw [if_pos hx] at h
      rcases List.mem_cons.mp h with h | h
      · simp [h]
      · exact splitL_free r w h
    · rw [if_neg hx] at h
      cases e : splitL c r with
      | nil => exact absurd e (splitL_ne c r)
      | cons a t =>
        rw [e] at h
        rcases List.mem_cons.mp h with h | h
        · rw [h]
          intro z
          rcases List.mem_cons.mp z with z | z
          · exact hx z.symm
          · exact splitL_free r a (by rw [e]; simp) z
        · exact splitL_free r w (by rw [e]; simp [h])
theorem splitL_mem {c d : Nat} {l w : List Nat} (h : w ∈ splitL c l) (hd : d ∈ w) : d ∈ l := by
  have key : ∀ ws : List (List Nat), w ∈ ws → d ∈ joinL c ws := by
    intro ws
    induction ws with
    | nil => intro z; simp at z
    | cons v r ih =>
      intro z
      by_cases hr : r = []
      · subst hr
        have : w = v := by simpa using z
        rw [← this]
        exact hd
      · rw [joinL_cons hr]
        rcases List.mem_cons.mp z with z | z
        · rw [← z]; simp [hd]
        · simp [ih z]
  have := key _ h
  rwa [joinL_splitL] at this
theorem join_sx (c : Nat) : ∀ ws : List (List Nat), Str.join (sx [c]) (ws.map sx) = sx (joinL c ws)
  | [] => rfl
  | [w] => rfl
  | w :: v :: r => by
    have ih := join_sx c (v :: r)
    show sx w ++ sx [c] ++ Str.join (sx [c]) ((v :: r).map sx) = _
    rw [ih, sx_app, sx_app, joinL_cons (w := w) (r := v :: r) (by simp), List.append_assoc]
    rfl
theorem txt_split (l : List Nat) (c : Nat) : Txt.split (sx l) (sx [c]) = (splitL c l).map sx := by
  have h1 := PySem.StrLaws.join_split (sx l) (sx [c])
  have h2 := PySem.StrLaws.split_free (sx l) c
  have h3 := PyProof.Rows.split_pos (sx l) (sx [c])
  obtain ⟨ws, hws⟩ : ∃ ws : List (List Nat), Txt.split (sx l) (sx [c]) = ws.map sx := ⟨(Txt.split (sx l) (sx [c])).map fun z => z.cps.toList, by
    rw [List.map_map]
    conv => lhs; rw [← List.map_id (Txt.split (sx l) (sx [c]))]
    exact List.map_congr_left fun z _ => (sx_of z).symm⟩
  rw [hws] at h1 h3 ⊢
  rw [join_sx, sx_inj] at h1
  have hne : ws ≠ [] := fun z => by rw [z] at h3; simp at h3
  have hfr : ∀ w ∈ ws, c ∉ w := fun w hw => by
    have := h2 (sx w) (by rw [show (⟨#[c]⟩ : Str) = sx [c] from rfl, hws]; exact List.mem_map.mpr ⟨w, hw, rfl⟩)
    rwa [sx_list] at this
  rw [← h1, splitL_joinL ws hne hfr]
theorem txt_join (ws : List (List Nat)) (c : Nat) : Txt.join (sx [c]) (ws.map sx) = sx (joinL c ws) := by
  show Builtin.Str.glued _ _ = _
  rw [PySem.StrLaws.glued_eq_join, join_sx]
theorem txt_joinE : ∀ ws : List (List Nat), Txt.join (sx []) (ws.map sx) = sx ws.flatten
  | [] => rfl
  | [w] => by simp [Txt.join, PySem.StrLaws.glued_eq_join, Str.join]
  | w :: v :: r => by
    have ih := txt_joinE (v :: r)
    unfold Txt.join at ih ⊢
    rw [PySem.StrLaws.glued_eq_join] at ih ⊢
    show sx w ++ sx [] ++ Str.join (sx []) ((v :: r).map sx) = _
    rw [ih, sx_app, sx_app]
    simp
theorem oSplit_sx {l : List Nat} {c : Nat} (h : l.length ≤ 100000) : oSplit (.str (sx l)) (.str (sx [c])) = some (.list ((splitL c l).map fun w => .str (sx w))) := by
  unfold oSplit
  dsimp only
  rw [if_pos ⟨by simp, by rw [sx_len]; omega⟩, txt_split, List.map_map]
  rfl
theorem joinL_len (c : Nat) : ∀ ws : List (List Nat), (joinL c ws).length ≤ (ws.map List.length).sum + ws.length
  | [] => by simp [joinL]
  | [w] => by simp [joinL]
  | w :: v :: r => by
    have := joinL_len c (v :: r)
    rw [joinL_cons (by simp)]
    simp at this ⊢
    omega
theorem toStrs_sx (ws : List (List Nat)) : toStrs (ws.map fun w => .str (sx w)) = some (ws.map sx) := by
  have := toStrs_map (ws.map sx)
  rw [List.map_map] at this
  exact this
theorem oJoin_sx {c : Nat} {ws : List (List Nat)} (h1 : (ws.map List.length).sum ≤ 100000) (h2 : ws.length ≤ 100000) : oJoin (.str (sx [c])) (.list (ws.map fun w => .str (sx w))) = some (.str (sx (joinL c ws))) := by
  unfold oJoin
  dsimp only
  rw [toStrs_sx, Option.bind_some, if_pos, txt_join]
  rw [List.map_map, List.length_map, sx_len]
  have : (ws.map ((·.length) ∘ sx)) = ws.map List.length := List.map_congr_left fun w _ => sx_len w
  rw [this]
  simp
  omega
theorem oJoin_E {ws : List (List Nat)} (h1 : (ws.map List.length).sum ≤ 100000) : oJoin (.str (sx [])) (.list (ws.map fun w => .str (sx w))) = some (.str (sx ws.flatten)) := by
  unfold oJoin
  dsimp only
  rw [toStrs_sx, Option.bind_some, if_pos, txt_joinE]
  rw [List.map_map, List.length_map, sx_len]
  have : (ws.map ((·.length) ∘ sx)) = ws.map List.length := List.map_congr_left fun w _ => sx_len w
  rw [this]
  simp
  omega
theorem oCatS_sx {a b : List Nat} (h : a.length + b.length ≤ 100000) : oCatS (.str (sx a)) (.str (sx b)) = some (.str (sx (a ++ b))) := by
  unfold oCatS
  dsimp only
  rw [if_pos (by rw [sx_len, sx_len]; omega), sx_app]
theorem oInS_sx (c : Nat) (l : List Nat) : oInS (.str (sx [c])) (.str (sx l)) = some (.bool (decide (c ∈ l))) := by
  show some (PyData.bool _) = _
  rw [show (sx [c]) = ⟨#[c]⟩ from rfl, PySem.StrLaws.found_one, sx_list]
theorem oNotInS_sx (c : Nat) (l : List Nat) : oNotInS (.str (sx [c])) (.str (sx l)) = some (.bool (!decide (c ∈ l))) := by
  show some (PyData.bool _) = _
  rw [show (sx [c]) = ⟨#[c]⟩ from rfl, PySem.StrLaws.found_one, sx_list]
theorem oLen_sx {l : List Nat} (h : l.length ≤ 100000) : oLen (.str (sx l)) = some (.int (l.length : Int)) := by
  show (if (sx l).length ≤ 16777216 then some (PyData.int ((sx l).length : Int)) else none) = _
  rw [sx_len, if_pos (by omega)]
theorem cut_to_sx {l : List Nat} {n : Nat} (h : n ≤ l.length) : cutS (sx l) none (some (n : Int)) = sx (l.take n) := by
  unfold cutS
  rw [HT.sIx_none, HT.sIx_nat, sx_list, sx_len, Nat.min_eq_left h]
  rfl
theorem cut_from_sx {l : List Nat} {n : Nat} : cutS (sx l) (some (n : Int)) none = sx (l.drop n) := by
  unfold cutS
  rw [HT.sIx_none, HT.sIx_nat, sx_list, sx_len]
  show sx ((l.drop (min n l.length)).take (l.length - min n l.length)) = _
  rw [List.take_of_length_le (by simp)]
  by_cases h : n ≤ l.length
  · rw [Nat.min_eq_left h]
  · rw [Nat.min_eq_right (by omega), List.drop_of_length_le (Nat.le_refl _), List.drop_of_length_le (by omega)]
/-- the text less its last sign; its last sign -/
theorem cut_init_sx {l : List Nat} : cutS (sx l) none (some (-1)) = sx l.dropLast := by
  unfold cutS
  rw [HT.sIx_none, sx_list, sx_len]
  have : HT.sIx l.length l.length (some (-1)) = l.length - 1 := by
    show (if (-1 : Int) < 0 then ((-1 : Int) + (l.length : Int)).toNat else min (-1 : Int).toNat l.length) = _
    rw [if_pos (by omega)]
    omega
  rw [this, List.dropLast_eq_take]
  rfl
theorem cut_last_sx {l : List Nat} : cutS (sx l) (some (-1)) none = sx (l.drop (l.length - 1)) := by
  unfold cutS
  rw [HT.sIx_none, sx_list, sx_len]
  have : HT.sIx l.length 0 (some (-1)) = l.length - 1 := by
    show (if (-1 : Int) < 0 then ((-1 : Int) + (l.length : Int)).toNat else min (-1 : Int).toNat l.length) = _
    rw [if_pos (by omega)]
    omega
  rw [this, List.take_of_length_le (by simp)]
  rfl
theorem oSliceS_sx {l : List Nat} (h : l.length ≤ 100000) (lo hi : Option Int) : oSliceS (.str (sx l)) lo hi = some (.str (cutS (sx l) lo hi)) := by
  show (if (sx l).length ≤ 16777216 then _ else _) = _
  rw [sx_len, if_pos (by omega)]
/-- signs that data may bear -/
def okL (l : List Nat) : Prop := ∀ c ∈ l, c < 1114112
theorem lay_sx {l : List Nat} (n : Nat) (h : okL l) : Lay n (.str (sx l)) := ⟨by
  show PySem.PyData.strOk (sx l) = true
  unfold PySem.PyData.strOk
  rw [← Array.all_toList, sx_list, List.all_eq_true]
  exact fun c hc => decide_eq_true (h c hc), by simp [PyData.depth]⟩
theorem eqv_sx (a b : List Nat) : PyData.eqv (.str (sx a)) (.str (sx b)) = decide (a = b) := by
  show (sx a == sx b) = _
  rw [Bool.eq_iff_iff, beq_iff_eq, decide_eq_true_eq, sx_inj]
end L2.DL
set_option maxHeartbeats 1000000
namespace L2.DL
open PySem PySem.Spec PyProof.Rows PySem.NumText

/-! ### numbers as texts -/
def numL (k : Nat) : List Nat := if k < 10 then [48 + k] else [48 + k / 10, 48 + k % 10]
theorem str_num_all : ∀ k : Fin 100, (Str.ofString (toString ((k.val : Nat) : Int))) = sx (numL k.val) := by decide +kernel
theorem str_num {k : Nat} (h : k < 100) : (Str.ofString (toString (k : Int))) = sx (numL k) := str_num_all ⟨k, h⟩
theorem numL_inj {a b : Nat} (ha : a < 100) (hb : b < 100) (h : numL a = numL b) : a = b := by
  unfold numL at h
  split at h <;> split at h <;> simp at h <;> omega
theorem numL_len (k : Nat) : 1 ≤ (numL k).length ∧ (numL k).length ≤ 2 := by
  unfold numL
  split <;> simp
theorem numL_digit {k : Nat} (h : k < 100) : ∀ c ∈ numL k, 48 ≤ c ∧ c ≤ 57 := by
  intro c hc
  unfold numL at hc
  split at hc <;> simp at hc <;> omega
theorem numL_ok {k : Nat} (h : k < 100) : okL (numL k) := fun c hc => by have := numL_digit h c hc; omega
theorem numL_val {k : Nat} (h : k < 100) : digitsVal (numL k) = k := by
  unfold numL digitsVal
  split
  · simp
  · simp; omega
/-- the number that a text writes, by the law: -1 where it is none -/
def lawNum (w : List Nat) : Int := match (List.range 100).find? fun k => decide (numL k = w) with
  | some k => (k : Int)
  | none => -1
theorem lawNum_num {k : Nat} (h : k < 100) : lawNum (numL k) = (k : Int) := by
  unfold lawNum
  cases e : (List.range 100).find? fun j => decide (numL j = numL k) with
  | none =>
    have := List.find?_eq_none.mp e k (List.mem_range.mpr h)
    simp at this
  | some j =>
    have h1 := List.find?_some e
    have h2 := List.mem_range.mp (List.mem_of_find?_eq_some e)
    have := numL_inj h2 h (of_decide_eq_true h1)
    rw [this]
theorem lawNum_of {w : List Nat} (h : 0 ≤ lawNum w) : ∃ k : Nat, k < 100 ∧ lawNum w = (k : Int) ∧ w = numL k := by
  unfold lawNum at h ⊢
  cases e : (List.range 100).find? fun j => decide (numL j = w) with
  | none => rw [e] at h; exact absurd h (by decide)
  | some j =>
    have hj := List.find?_some e
    exact ⟨j, List.mem_range.mp (List.mem_of_find?_eq_some e), rfl, (of_decide_eq_true hj).symm⟩
def digL : List Nat := [48, 49, 50, 51, 52, 53, 54, 55, 56, 57]
theorem dig_text : (Str.ofString "0123456789") = sx digL := by decide +kernel
theorem mem_dig {c : Nat} : c ∈ digL ↔ 48 ≤ c ∧ c ≤ 57 := by simp [digL]; omega
/-- by the program: one or two figures -/
def progNum (w : List Nat) : Option Int := if 1 ≤ w.length ∧ w.length ≤ 2 ∧ w.all (fun c => decide (c ∈ digL)) = true then some (digitsVal w : Int) else none
theorem progNum_num {k : Nat} (h : k < 100) : progNum (numL k) = some (k : Int) := by
  unfold progNum
  rw [if_pos ⟨(numL_len k).1, (numL_len k).2, List.all_eq_true.mpr fun c hc => decide_eq_true (mem_dig.mpr (numL_digit h c hc))⟩, numL_val h]
theorem intS_sx {w : List Nat} (h1 : w ≠ []) (h2 : w.length ≤ 2) (hd : ∀ c ∈ w, 48 ≤ c ∧ c ≤ 57) : oIntS (.str (sx w)) = some (.int (digitsVal w : Int)) := by
  show (if (sx w).length ≤ 640 then (PySem.intText? (sx w)).map PyData.int else none) = _
  rw [sx_len, if_pos (by omega), intText_digits (x := sx w) (by rw [sx_list]; exact hd) (by rw [sx_list]; exact h1) (by rw [sx_len]; omega), sx_list]
  rfl
theorem allB {α : Type} (f : α → Bool) (xs : List α) : oAll (.list (xs.map fun x => PyData.bool (f x))) = some (.bool (xs.all f)) := by
  have := toBools_of (xs.map f)
  rw [List.map_map] at this
  rw [show (xs.map fun x => PyData.bool (f x)) = xs.map (PyData.bool ∘ f) from rfl, this]
  simp
theorem number_ok {w : List Nat} (h : w.length ≤ 100000) : m_number_of [.str (sx w)] = (match progNum w with
    | some n => .ok (.int n)
    | none => .err "NoText") := by
  have hl := oLen_sx h
  have hit : itStr (eVar 0) [some (.str (sx w)), none] = .ok (w.map fun c => .str (sx [c])) := by
    unfold itStr
    simp [sx]
  have hc : compD (.one 1) teYes (eOp oInS (eVar 1) (eC (.str "0123456789"))) [some (.str (sx w)), none] (w.map fun c => PyData.str (sx [c])) = .ok (w.map fun c => PyData.bool (decide (c ∈ digL))) :=
    compD_map (fun c => PyData.str (sx [c])) (fun c => PyData.bool (decide (c ∈ digL))) w fun c _ => ⟨_, rfl, by simp [dig_text, oInS_sx]⟩
  have ha := allB (fun c => decide (c ∈ digL)) w
  by_cases h1 : 1 ≤ w.length ∧ w.length ≤ 2
  · have c1 : (1 : Int) ≤ (w.length : Int) := by omega
    have c2 : (w.length : Int) ≤ 2 := by omega
    cases hd : w.all fun c => decide (c ∈ digL) with
    | true =>
      have hi := intS_sx (w := w) (fun z => by rw [z] at h1; simp at h1) h1.2 fun c hcm => mem_dig.mp (of_decide_eq_true (List.all_eq_true.mp hd c hcm))
      rw [hd] at ha
      have hp : progNum w = some (digitsVal w : Int) := by unfold progNum; rw [if_pos ⟨h1.1, h1.2, hd⟩]
      rw [hp]
      generalize (w.map fun c => PyData.bool (decide (c ∈ digL))) = R at *
      simp only [m_number_of, runD_ap]
      simp [hl, c1, c2, hit, show w.length < 16777216 by omega, hc, ha, hi]
    | false =>
      rw [hd] at ha
      have hp : progNum w = none := by unfold progNum; rw [if_neg (by rw [hd]; simp)]
      rw [hp]
      generalize (w.map fun c => PyData.bool (decide (c ∈ digL))) = R at *
      simp only [m_number_of, runD_ap]
      simp [hl, c1, c2, hit, show w.length < 16777216 by omega, hc, ha]
  · have hp : progNum w = none := by unfold progNum; rw [if_neg (fun z => h1 ⟨z.1, z.2.1⟩)]
    rw [hp]
    simp only [m_number_of, runD_ap]
    by_cases c1 : (1 : Int) ≤ (w.length : Int)
    · have c2 : ¬ (w.length : Int) ≤ 2 := by omega
      simp [hl, c1, c2]
    · simp [hl, c1]
theorem strN_num {k : Nat} (h : k < 100) : oStrN (.int (k : Int)) = some (.str (sx (numL k))) := by
  show (if ((k : Int)).natAbs.log2 < 1920 then some (PyData.str (toString (k : Int))) else none) = _
  have : ((k : Int)).natAbs.log2 < 1920 := by
    have h1 : ((k : Int)).natAbs = k := rfl
    rw [h1]
    exact Nat.lt_of_le_of_lt (Nat.log2_le_self k) (by omega)
  rw [if_pos this, str_num h]
theorem law_number_ok {w : List Nat} (h : okL w) (hl : w.length ≤ 100000) : m__law_number [.str (sx w)] = .ok (.int (lawNum w)) := by
  have hb : inB (100 : Int) := inB_nat (n := 100) (by omega)
  have hr : rangeD 0 (100 : Int) = (List.range 100).map encN := rangeD_encN 100
  have hc : compD (.one 1) teYes (eCall1 oStrN (eVar 1)) [some (.str (sx w)), none] ((List.range 100).map encN) = .ok ((List.range 100).map fun k => PyData.str (sx (numL k))) :=
    compD_map encN (fun k => PyData.str (sx (numL k))) (List.range 100) fun k hk => ⟨_, rfl, by simp [encN, strN_num (List.mem_range.mp hk)]⟩
  have hn : oNotIn (.str (sx w)) (.list ((List.range 100).map fun k => PyData.str (sx (numL k)))) = some (.bool (!(List.range 100).any fun k => decide (numL k = w))) := by
    rw [oNotIn_of (n := 1) (lay_sx 1 h) (Lay.list fun d hd => by
      obtain ⟨k, hk, rfl⟩ := List.mem_map.mp hd
      exact lay_sx 0 (numL_ok (List.mem_range.mp hk))), List.any_map]
    rw [show ((fun z => PyData.eqv z (.str (sx w))) ∘ fun k => PyData.str (sx (numL k))) = fun k => decide (numL k = w) from funext fun k => eqv_sx _ _]
  have hlen : ((List.range 100).map encN).length = 100 := by simp
  cases e : (List.range 100).any fun k => decide (numL k = w) with
  | true =>
    obtain ⟨k, hk, hkw⟩ := List.any_eq_true.mp e
    have hk := List.mem_range.mp hk
    have hkw := of_decide_eq_true hkw
    have hi := intS_sx (w := w) (by rw [← hkw]; have := numL_len k; intro z; rw [z] at this; simp at this) (by rw [← hkw]; exact (numL_len k).2) (by rw [← hkw]; exact numL_digit hk)
    have hv : digitsVal w = k := by rw [← hkw, numL_val hk]
    have hlw : lawNum w = (k : Int) := by rw [← hkw, lawNum_num hk]
    rw [hv] at hi
    rw [e] at hn
    rw [hlw]
    generalize (List.range 100).map (fun k => PyData.str (sx (numL k))) = R at *
    generalize (List.range 100).map encN = R2 at *
    simp only [m__law_number, runD_ap]
    simp [hb, hr, hlen, hc, hn, hi]
  | false =>
    have hlw : lawNum w = -1 := by
      unfold lawNum
      have : (List.range 100).find? (fun k => decide (numL k = w)) = none := by
        rw [List.find?_eq_none]
        intro k hk
        have := List.any_eq_false.mp e k hk
        simpa using this
      rw [this]
    rw [e] at hn
    rw [hlw]
    generalize (List.range 100).map (fun k => PyData.str (sx (numL k))) = R at *
    generalize (List.range 100).map encN = R2 at *
    simp only [m__law_number, runD_ap]
    simp [hb, hr, hlen, hc, hn]
end L2.DL
set_option maxHeartbeats 1000000
namespace L2.DL
open PySem PySem.Spec PyProof.Rows PySem.NumText

/-! ### parts, lines -/
theorem star_text : (Str.ofString "*") = sx [42] := by decide +kernel
theorem blank_text : (Str.ofString " ") = sx [32] := by decide +kernel
theorem end_text : (Str.ofString "\n") = sx [10] := by decide +kernel
theorem none_text : (Str.ofString "") = sx [] := by decide +kernel
/-- ahead of the first c, behind it -/
def cutAt (c : Nat) : List Nat → Option (List Nat × List Nat)
  | [] => none
  | x :: r => if x = c then some ([], r) else (cutAt c r).map fun p => (x :: p.1, p.2)
theorem cutAt_none {c : Nat} : ∀ {w : List Nat}, cutAt c w = none → c ∉ w
  | [], _ => by simp
  | x :: r, h => by
    unfold cutAt at h
    split at h
    · cases h
    · rename_i hx
      have h2 : cutAt c r = none := by
        cases e : cutAt c r with
        | none => rfl
        | some p => rw [e] at h; cases h
      intro z
      rcases List.mem_cons.mp z with z | z
      · exact hx z.symm
      · exact cutAt_none h2 z
theorem cutAt_some {c : Nat} : ∀ {w a b : List Nat}, cutAt c w = some (a, b) → w = a ++ c :: b ∧ c ∉ a
  | [], _, _, h => by simp [cutAt] at h
  | x :: r, a, b, h => by
    unfold cutAt at h
    split at h
    · rename_i hx
      cases h
      exact ⟨by rw [hx]; rfl, by simp⟩
    · rename_i hx
      cases e : cutAt c r with
      | none => rw [e] at h; cases h
      | some p =>
        rw [e] at h
        cases h
        obtain ⟨h1, h2⟩ := cutAt_some (a := p.1) (b := p.2) e
        refine ⟨?_, fun z => ?_⟩
        · rw [List.cons_append, ← h1]
        · rcases List.mem_cons.mp z with z | z
          · exact hx z.symm
          · exact h2 z
theorem cutAt_word {c : Nat} : ∀ (a b : List Nat), c ∉ a → cutAt c (a ++ c :: b) = some (a, b)
  | [], b, _ => by simp [cutAt]
  | x :: a, b, h => by
    have hx : x ≠ c := fun z => h (by simp [z])
    rw [List.cons_append, cutAt, if_neg hx, cutAt_word a b fun z => h (List.mem_cons_of_mem _ z)]
    rfl
theorem cutAt_free {c : Nat} {w : List Nat} (h : c ∉ w) : cutAt c w = none := by
  cases e : cutAt c w with
  | none => rfl
  | some p =>
    have := (cutAt_some (a := p.1) (b := p.2) e).1
    exact absurd (by rw [this]; simp) h
theorem find_sx {c : Nat} {w a b : List Nat} (h : cutAt c w = some (a, b)) : Txt.find (sx w) (sx [c]) = (a.length : Int) := by
  obtain ⟨h1, h2⟩ := cutAt_some h
  have at_ : ∀ i, PySem.StrLaws.At (sx w) (sx [c]) (sx w).length i ↔ w[i]? = some c := fun i => by
    have := PySem.StrLaws.subAt_one (sx w) c i
    rw [sx_list] at this
    exact this
  have ha : w[a.length]? = some c := by rw [h1]; simp
  rcases find_whole (sx w) (sx [c]) with ⟨_, hn⟩ | ⟨i, hi, hat, hmin⟩
  · exact absurd ((at_ a.length).mpr ha) (hn _)
  · rw [hi]
    have hi2 := (at_ i).mp hat
    congr 1
    rcases Nat.lt_trichotomy i a.length with z | z | z
    · rw [h1, List.getElem?_append_left z] at hi2
      exact absurd (List.mem_of_getElem? hi2) h2
    · exact z
    · exact absurd ((at_ a.length).mpr ha) (hmin _ z)
def lawPart (w : List Nat) : Int × Option Int := match cutAt 42 w with
  | none => (lawNum w, none)
  | some (a, b) => (lawNum a, some (lawNum b))
def progPart (w : List Nat) : Option (Int × Option Int) := match splitL 42 w with
  | [a] => (progNum a).map fun n => (n, none)
  | [a, b] => (progNum a).bind fun n => (progNum b).map fun m => (n, some m)
  | _ => none
theorem law_part_ok {w : List Nat} (h : okL w) (hl : w.length ≤ 100000) : m__law_part [.str (sx w)] = .ok (encP (lawPart w)) := by
  cases e : cutAt 42 w with
  | none =>
    have hn := cutAt_none e
    have h1 := oNotInS_sx 42 w
    rw [decide_eq_false hn] at h1
    have h2 := law_number_ok h hl
    have hp : lawPart w = (lawNum w, none) := by unfold lawPart; rw [e]
    rw [hp]
    simp only [m__law_part, runD_ap]
    simp [star_text, h1, h2, encP, encO]
  | some p =>
    obtain ⟨a, b⟩ := p
    obtain ⟨k1, k2⟩ := cutAt_some e
    have hm : 42 ∈ w := by rw [k1]; simp
    have h1 := oNotInS_sx 42 w
    rw [decide_eq_true hm] at h1
    have hla : a.length ≤ w.length ∧ b.length ≤ w.length := by
      have := congrArg List.length k1
      simp at this
      omega
    have ha := law_number_ok (w := a) (fun c hc => h c (by rw [k1]; simp [hc])) (by omega)
    have hb := law_number_ok (w := b) (fun c hc => h c (by rw [k1]; simp [hc])) (by omega)
    have hf : oFind (.str (sx w)) (.str (sx [42])) = some (.int (a.length : Int)) := by
      show some (PyData.int _) = _
      rw [find_sx e]
    have s1 : oSliceS (.str (sx w)) none (some (a.length : Int)) = some (.str (sx a)) := by
      rw [oSliceS_sx hl, cut_to_sx hla.1, k1]
      simp
    have s2 : oSliceS (.str (sx w)) (some ((a.length : Int) + 1)) none = some (.str (sx b)) := by
      rw [oSliceS_sx hl, show (a.length : Int) + 1 = ((a.length + 1 : Nat) : Int) by omega, cut_from_sx, k1]
      simp
    have hp : lawPart w = (lawNum a, some (lawNum b)) := by unfold lawPart; rw [e]
    rw [hp]
    simp only [m__law_part, runD_ap]
    simp [star_text, h1, ha, hb, hf, s1, s2, encP, encO]
theorem splitL_len {c : Nat} : ∀ {l w : List Nat}, w ∈ splitL c l → w.length ≤ l.length
  | [], w, h => by simp [splitL] at h; simp [h]
  | x :: r, w, h => by
    unfold splitL at h
    by_cases hx : x = c
    · rw [if_pos hx] at h
      rcases List.mem_cons.mp h with h | h
      · simp [h]
      · have := splitL_len h; simp; omega
    · rw [if_neg hx] at h
      cases e : splitL c r with
      | nil => exact absurd e (splitL_ne c r)
      | cons a t =>
        rw [e] at h
        rcases List.mem_cons.mp h with h | h
        · have := splitL_len (c := c) (l := r) (w := a) (by rw [e]; simp)
          rw [h]; simp; omega
        · have := splitL_len (c := c) (l := r) (w := w) (by rw [e]; simp [h])
          simp; omega
theorem splitL_many (c : Nat) : ∀ l : List Nat, (splitL c l).length ≤ l.length + 1
  | [] => by simp [splitL]
  | x :: r => by
    have ih := splitL_many c r
    unfold splitL
    split
    · simp; omega
    · split
      · simp
      · rename_i h e
        rw [e] at ih
        simp at ih ⊢
        omega
theorem part_of_ok {w : List Nat} (hl : w.length ≤ 100000) : m_part_of [.str (sx w)] = (match progPart w with
    | some p => .ok (encP p)
    | none => .err "NoText") := by
  have hs := oSplit_sx (c := 42) hl
  have hlen := splitL_many 42 w
  have hmem : ∀ v ∈ splitL 42 w, v.length ≤ 100000 := fun v hv => by have := splitL_len hv; omega
  have hne := splitL_ne 42 w
  unfold progPart
  generalize splitL 42 w = S at *
  match S, hne with
  | [a], _ =>
    have ha := number_ok (hmem a (by simp))
    cases e : progNum a with
    | some n =>
      rw [e] at ha
      simp only [m_part_of, runD_ap]
      simp [star_text, hs, ha, encP, encO, e]
    | none =>
      rw [e] at ha
      simp only [m_part_of, runD_ap]
      simp [star_text, hs, ha, e]
  | [a, b], _ =>
    have ha := number_ok (hmem a (by simp))
    have hb := number_ok (hmem b (by simp))
    have i1 : atI [PyData.str (sx a), .str (sx b)] 1 = some (.str (sx b)) := rfl
    cases e : progNum a with
    | some n =>
      rw [e] at ha
      cases e2 : progNum b with
      | some m =>
        rw [e2] at hb
        simp only [m_part_of, runD_ap]
        simp [star_text, hs, ha, hb, encP, encO, i1, e, e2]
      | none =>
        rw [e2] at hb
        simp only [m_part_of, runD_ap]
        simp [star_text, hs, ha, hb, i1, e, e2]
    | none =>
      rw [e] at ha
      simp only [m_part_of, runD_ap]
      simp [star_text, hs, ha, e]
  | a :: b :: c :: r, _ =>
    have hL : (2 : Int) < (r.length : Int) + 1 + 1 + 1 := by omega
    simp only [m_part_of, runD_ap]
    simp [star_text, hs, hL]
end L2.DL
set_option maxHeartbeats 1000000
namespace L2.DL
open PySem PySem.Spec PyProof.Rows PySem.NumText

/-! ### errands of lines -/
def allSome {α β : Type} (f : α → Option β) : List α → Option (List β)
  | [] => some []
  | a :: r => match f a with
    | none => none
    | some b => (allSome f r).map (b :: ·)
theorem allSome_len {α β : Type} {f : α → Option β} : ∀ {xs : List α} {bs : List β}, allSome f xs = some bs → bs.length = xs.length
  | [], bs, h => by cases h; rfl
  | a :: r, bs, h => by
    unfold allSome at h
    cases e : f a with
    | none => rw [e] at h; cases h
    | some b =>
      rw [e] at h
      cases e2 : allSome f r with
      | none => rw [e2] at h; cases h
      | some cs =>
        rw [e2] at h
        cases h
        simp [allSome_len e2]
theorem allSome_map {α β : Type} {f : α → Option β} {g : α → β} : ∀ {xs : List α}, (∀ a ∈ xs, f a = some (g a)) → allSome f xs = some (xs.map g)
  | [], _ => rfl
  | a :: r, h => by
    unfold allSome
    rw [h a (by simp), allSome_map fun x hx => h x (List.mem_cons_of_mem _ hx)]
    rfl
theorem compDE_map {α β : Type} {t : Tgt} {e : Ex} {ρ : Env} {q : Str} (enc : α → PyData) (f : α → Option β) (dec : β → PyData) : ∀ (xs : List α), (∀ a ∈ xs, ∃ ρ1, bindT t (enc a) ρ = .ok ρ1 ∧ e ρ1 = (match f a with
    | some b => .ok (dec b)
    | none => .err q)) → compDE t teYes e ρ (xs.map enc) = (match allSome f xs with
    | some bs => .ok (bs.map dec)
    | none => .err q)
  | [], _ => rfl
  | a :: r, h => by
    obtain ⟨ρ1, h1, h2⟩ := h a (by simp)
    have ih := compDE_map (t := t) (e := e) (ρ := ρ) (q := q) enc f dec r fun x hx => h x (List.mem_cons_of_mem _ hx)
    rw [List.map_cons, compDE_cons, h1, Res.bind_ok]
    show (noErr (Res.ok true)).bind _ = _
    rw [noErr_ok, Res.bind_ok, if_pos rfl, h2]
    unfold allSome
    cases e1 : f a with
    | none => rfl
    | some b =>
      dsimp only
      rw [Res.bind_ok, ih]
      cases allSome f r <;> rfl
def lawLine (l : List Nat) : Option Er := match splitL 32 l with
  | a :: b :: c :: d :: r => some ⟨lawNum a, lawNum b, lawNum c, (d :: r).map lawPart⟩
  | _ => none
def progLine (l : List Nat) : Option Er := match splitL 32 l with
  | a :: b :: c :: d :: r => (allSome progNum [a, b, c]).bind fun ns => (allSome progPart (d :: r)).map fun ps => ⟨ns.getD 0 0, ns.getD 1 0, ns.getD 2 0, ps⟩
  | _ => none
theorem errand_of_ok {l : List Nat} (hl : l.length ≤ 100000) : m_errand_of [.str (sx l)] = (match progLine l with
    | some e => .ok (encE e)
    | none => .err "NoText") := by
  have hs := oSplit_sx (c := 32) hl
  have hlen := splitL_many 32 l
  have hmem : ∀ v ∈ splitL 32 l, v.length ≤ 100000 := fun v hv => by have := splitL_len hv; omega
  unfold progLine
  generalize splitL 32 l = S at *
  match S with
  | [] => simp [m_errand_of, runD_ap, blank_text, hs]
  | [a] => simp [m_errand_of, runD_ap, blank_text, hs]
  | [a, b] => simp [m_errand_of, runD_ap, blank_text, hs]
  | [a, b, c] => simp [m_errand_of, runD_ap, blank_text, hs]
  | a :: b :: c :: d :: r =>
    have hl4 : ¬ (r.length : Int) + 1 + 1 + 1 + 1 < 4 := by omega
    have hr : r.length < 16777215 := by simp at hlen; omega
    have s1 : cutD (PyData.str (sx a) :: .str (sx b) :: .str (sx c) :: .str (sx d) :: r.map fun w => .str (sx w)) none (some 3) = [a, b, c].map fun w => .str (sx w) := cut_to (n := 3) (by simp)
    have s2 : cutD (PyData.str (sx a) :: .str (sx b) :: .str (sx c) :: .str (sx d) :: r.map fun w => .str (sx w)) (some 3) none = (d :: r).map fun w => .str (sx w) := cut_from (n := 3) (by simp)
    have h1 := compDE_map (t := .one 2) (e := eCall m_number_of (aCons (eVar 2) aNil)) (ρ := [some (.str (sx l)), some (.list ((a :: b :: c :: d :: r).map fun w => .str (sx w))), none]) (q := "NoText") (fun w => PyData.str (sx w)) progNum PyData.int [a, b, c] fun w hw => ⟨_, rfl, by
      have := number_ok (hmem w (by
        simp at hw
        rcases hw with h | h | h <;> simp [h]))
      simp [this]
      cases progNum w <;> rfl⟩
    have h2 := compDE_map (t := .one 2) (e := eCall m_part_of (aCons (eVar 2) aNil)) (ρ := [some (.str (sx l)), some (.list ((a :: b :: c :: d :: r).map fun w => .str (sx w))), none]) (q := "NoText") (fun w => PyData.str (sx w)) progPart encP (d :: r) fun w hw => ⟨_, rfl, by
      have := part_of_ok (hmem w (by
        rcases List.mem_cons.mp hw with h | h <;> simp [h]))
      simp [this]
      cases progPart w <;> rfl⟩
    have hlr : ((d :: r).map fun w => PyData.str (sx w)).length < 16777216 := by simp; omega
    rw [← s1] at h1
    rw [← s2] at h2 hlr
    have hl3 : (cutD (PyData.str (sx a) :: .str (sx b) :: .str (sx c) :: .str (sx d) :: r.map fun w => .str (sx w)) none (some 3)).length < 16777216 := by rw [s1]; simp
    cases e1 : allSome progNum [a, b, c] with
    | none =>
      rw [e1] at h1
      simp only [m_errand_of, runD_ap]
      simp only [List.map_cons] at h1 hs
      simp [blank_text, hs, hl4, eCompE, hl3, h1, e1]
    | some ns =>
      rw [e1] at h1
      have hn := allSome_len e1
      obtain ⟨x, y, z, rfl⟩ : ∃ x y z, ns = [x, y, z] := by
        match ns, hn with
        | [x, y, z], _ => exact ⟨x, y, z, rfl⟩
      cases e2 : allSome progPart (d :: r) with
      | none =>
        rw [e2] at h2
        simp only [m_errand_of, runD_ap]
        simp only [List.map_cons] at h1 h2 hs
        simp [blank_text, hs, hl4, eCompE, hl3, h1, hlr, h2, e1, e2]
      | some ps =>
        rw [e2] at h2
        simp only [m_errand_of, runD_ap]
        simp only [List.map_cons] at h1 h2 hs
        simp [blank_text, hs, hl4, eCompE, hl3, h1, hlr, h2, encE, e1, e2]
end L2.DL
set_option maxHeartbeats 1000000
namespace L2.DL
open PySem PySem.Spec PyProof.Rows PySem.NumText

/-! ### errands of any numbers: right just where they are errands -/
def okPB (p : Int × Option Int) : Bool := decide (1 ≤ p.1 ∧ p.1 ≤ 20) && (match p.2 with
  | none => true
  | some t => decide (0 ≤ t ∧ t ≤ 3))
theorem okPB_iff (p : Int × Option Int) : okPB p = true ↔ OkP p := by
  obtain ⟨i, o⟩ := p
  unfold okPB
  cases o with
  | none => simp; exact ⟨fun h => ⟨h, fun t z => by cases z⟩, fun h => h.len⟩
  | some t =>
    simp
    exact ⟨fun h => ⟨⟨h.1.1, h.1.2⟩, fun u z => by cases z; exact h.2⟩, fun h => ⟨h.len, h.tool t rfl⟩⟩
theorem is_part_any (p : Int × Option Int) : m_is_part [encP p] = .ok (.bool (okPB p)) := by
  obtain ⟨i, o⟩ := p
  by_cases h : 1 ≤ i ∧ i ≤ 20
  · have b1 := between_int i 1 20
    rw [decide_eq_true h] at b1
    cases o with
    | none => simp [m_is_part, runD_ap, b1, encO, encP, okPB, h]
    | some t => simp [m_is_part, runD_ap, b1, encO, encP, okPB, h, between_int]
  · rw [show okPB (i, o) = false by unfold okPB; simp; intro z1 z2; exact absurd ⟨z1, z2⟩ h]
    exact pt_int h
noncomputable def okEB (e : Er) : Bool := @decide (OkE e) (Classical.propDecidable _)
theorem okEB_iff (e : Er) : okEB e = true ↔ OkE e := by unfold okEB; exact @decide_eq_true_iff _ (Classical.propDecidable _)
theorem okEB_no {e : Er} (h : ¬ OkE e) : okEB e = false := by
  cases k : okEB e with
  | false => rfl
  | true => exact absurd ((okEB_iff e).mp k) h
theorem is_errand_any (e : Er) : m_is_errand [encE e] = .ok (.bool (okEB e)) := by
  by_cases h1 : 2 ≤ e.every ∧ e.every ≤ 60
  · by_cases h2 : 0 ≤ e.late ∧ e.late ≤ 20 ∧ e.late ≤ e.every - 1
    · by_cases h3 : 1 ≤ e.due ∧ e.due ≤ e.every - e.late
      · have b1 := between_int e.every 2 60
        rw [decide_eq_true h1] at b1
        have b2 : m_between [.int e.late, .int 0, .int (if e.every - 1 < 20 then e.every - 1 else 20)] = .ok (.bool true) := by
          rw [between_int, decide_eq_true]
          split <;> omega
        have b3 := between_int e.due 1 (e.every - e.late)
        rw [decide_eq_true h3] at b3
        by_cases h4 : 1 ≤ e.parts.length ∧ e.parts.length ≤ 4
        · have c4 : (1 : Int) ≤ (e.parts.length : Int) := by omega
          have c5 : (e.parts.length : Int) ≤ 4 := by omega
          have hc : compD (.one 1) teYes (eCall m_is_part (aCons (eVar 1) aNil)) [some (encE e), none] (e.parts.map encP) = .ok (e.parts.map fun p => PyData.bool (okPB p)) :=
            compD_map encP (fun p => PyData.bool (okPB p)) e.parts fun p hp => ⟨_, rfl, by simp [is_part_any]⟩
          have ha := allB okPB e.parts
          obtain ⟨r, q, hr⟩ : ∃ r q, e.parts = r ++ [q] := by
            have hne : e.parts ≠ [] := fun z => by rw [z] at h4; simp at h4
            exact ⟨_, _, (List.dropLast_concat_getLast hne).symm⟩
          have hlast : atI (e.parts.map encP) (-1) = some (encP q) := by
            rw [hr, List.map_append, List.map_singleton]
            exact atI_last _ _
          have hgl : e.parts.getLast? = some q := by rw [hr]; simp
          have hlen : e.parts.length < 16777216 := by omega
          unfold encE at hc
          cases hA : e.parts.all okPB with
          | false =>
            have hno : ¬ OkE e := fun z => by
              have : e.parts.all okPB = true := List.all_eq_true.mpr fun p hp => (okPB_iff p).mpr (z.part p hp)
              rw [hA] at this
              cases this
            rw [hA] at ha
            rw [okEB_no hno]
            unfold encE
            generalize (e.parts.map fun p => PyData.bool (okPB p)) = R at *
            simp [m_is_errand, runD_ap, b1, b2, b3, c4, c5, hlen, hc, ha]
          | true =>
            rw [hA] at ha
            have hok : okEB e = decide (q.2 = none) := by
              cases hq : q.2 with
              | some t =>
                simp
                exact okEB_no fun z => by
                  obtain ⟨l, z⟩ := z.last
                  rw [hgl] at z
                  rw [Option.some.injEq] at z
                  rw [z] at hq
                  cases hq
              | none =>
                simp
                exact (okEB_iff e).mpr ⟨h1, h2, h3, h4, fun p hp => (okPB_iff p).mp (List.all_eq_true.mp hA p hp), q.1, by rw [hgl, ← hq]⟩
            rw [hok]
            unfold encE
            generalize (e.parts.map fun p => PyData.bool (okPB p)) = R at *
            cases hq : q.2 with
            | none => simp [m_is_errand, runD_ap, b1, b2, b3, c4, c5, hlen, hc, ha, hlast, hq, encO]
            | some t => simp [m_is_errand, runD_ap, b1, b2, b3, c4, c5, hlen, hc, ha, hlast, hq, encO]
        · rw [okEB_no fun z => h4 z.parts]
          unfold encE
          by_cases c4 : (1 : Int) ≤ (e.parts.length : Int)
          · have c5 : ¬ (e.parts.length : Int) ≤ 4 := by omega
            simp [m_is_errand, runD_ap, b1, b2, b3, c4, c5]
          · simp [m_is_errand, runD_ap, b1, b2, b3, c4]
      · rw [okEB_no fun z => h3 z.due]
        exact er_due h1 h2 h3
    · rw [okEB_no fun z => h2 z.late]
      exact er_late h1 h2
  · rw [okEB_no fun z => h1 z.every]
    exact er_every h1
noncomputable def okEsB (es : List Er) : Bool := @decide (OkEs es) (Classical.propDecidable _)
theorem okEsB_iff (es : List Er) : okEsB es = true ↔ OkEs es := by unfold okEsB; exact @decide_eq_true_iff _ (Classical.propDecidable _)
theorem okEsB_no {es : List Er} (h : ¬ OkEs es) : okEsB es = false := by
  cases k : okEsB es with
  | false => rfl
  | true => exact absurd ((okEsB_iff es).mp k) h
theorem are_errands_any (es : List Er) : m_are_errands [encEs es] = .ok (.bool (okEsB es)) := by
  have ht : isaTuple (encEs es) = some (.bool true) := rfl
  have hi : items (encEs es) = .ok (es.map encE) := rfl
  by_cases h : 1 ≤ es.length ∧ es.length ≤ 6
  · have c1 : (1 : Int) ≤ (es.length : Int) := by omega
    have c2 : (es.length : Int) ≤ 6 := by omega
    have hc : compD (.one 1) teYes (eCall m_is_errand (aCons (eVar 1) aNil)) [some (encEs es), none] (es.map encE) = .ok (es.map fun e => PyData.bool (okEB e)) :=
      compD_map encE (fun e => PyData.bool (okEB e)) es fun e he => ⟨_, rfl, by simp [is_errand_any]⟩
    have ha := allB okEB es
    have hk : okEsB es = es.all okEB := by
      rw [Bool.eq_iff_iff, okEsB_iff, List.all_eq_true]
      exact ⟨fun z e he => (okEB_iff e).mpr (z.all e he), fun z => ⟨h, fun e he => (okEB_iff e).mp (z e he)⟩⟩
    rw [hk]
    generalize (es.map fun e => PyData.bool (okEB e)) = R at *
    simp [m_are_errands, runD_ap, ht, c1, c2, hi, show es.length < 16777216 by omega, hc, ha]
  · rw [okEsB_no fun z => h z.len]
    by_cases c1 : (1 : Int) ≤ (es.length : Int)
    · have c2 : ¬ (es.length : Int) ≤ 6 := by omega
      simp [m_are_errands, runD_ap, ht, c1, c2]
    · simp [m_are_errands, runD_ap, ht, c1]
theorem checked_any (es : List Er) : m_checked [encEs es] = if okEsB es = true then .ok (encEs es) else .err "NoErrands" := by
  have := are_errands_any es
  cases h : okEsB es with
  | true => rw [h] at this; simp [m_checked, runD_ap, this]
  | false => rw [h] at this; simp [m_checked, runD_ap, this]
end L2.DL
set_option maxHeartbeats 1000000
namespace L2.DL
open PySem PySem.Spec PyProof.Rows PySem.NumText

/-! ### the text of errands -/
def numI (i : Int) : List Nat := numL i.toNat
def partL (p : Int × Option Int) : List Nat := match p.2 with
  | none => numI p.1
  | some t => numI p.1 ++ 42 :: numI t
def wordsE (e : Er) : List (List Nat) := numI e.every :: numI e.due :: numI e.late :: e.parts.map partL
def textE (e : Er) : List Nat := joinL 32 (wordsE e)
def textOf (es : List Er) : List Nat := (es.map fun e => textE e ++ [10]).flatten
theorem strI {i : Int} (h0 : 0 ≤ i) (h1 : i < 100) : oStrN (.int i) = some (.str (sx (numI i))) := by
  obtain ⟨n, rfl⟩ : ∃ n : Nat, i = (n : Int) := ⟨i.toNat, by omega⟩
  exact strN_num (by omega)
theorem numI_len (i : Int) : (numI i).length ≤ 2 := (numL_len _).2
theorem partL_len (p : Int × Option Int) : (partL p).length ≤ 5 := by
  unfold partL
  have h1 := numI_len p.1
  cases p.2 with
  | none => dsimp only; omega
  | some t => have := numI_len t; simp; omega
theorem sum_le {α : Type} (f : α → Nat) (m : Nat) : ∀ xs : List α, (∀ x ∈ xs, f x ≤ m) → (xs.map f).sum ≤ m * xs.length
  | [], _ => by simp
  | x :: r, h => by
    have h1 := h x (by simp)
    have h2 := sum_le f m r fun y hy => h y (List.mem_cons_of_mem _ hy)
    simp
    rw [Nat.mul_add]
    omega
theorem words_sum (e : Er) : ((wordsE e).map List.length).sum ≤ 6 + 5 * e.parts.length := by
  have h := sum_le (fun p => (partL p).length) 5 e.parts fun p _ => partL_len p
  have h1 := numI_len e.every
  have h2 := numI_len e.due
  have h3 := numI_len e.late
  unfold wordsE
  simp [List.map_map]
  have : (List.length ∘ partL) = fun p => (partL p).length := rfl
  rw [this]
  omega
theorem textE_len {e : Er} (h : OkE e) : (textE e).length ≤ 40 := by
  have h1 := joinL_len 32 (wordsE e)
  have h2 := words_sum e
  have h3 := h.parts.2
  have h4 : (wordsE e).length = e.parts.length + 3 := by simp [wordsE]
  unfold textE
  omega
theorem textOf_len {es : List Er} (h : OkEs es) : (textOf es).length ≤ 300 := by
  unfold textOf
  rw [List.length_flatten, List.map_map]
  have := sum_le (List.length ∘ fun e => textE e ++ [10]) 41 es fun e he => by
    have := textE_len (h.all e he)
    simp
    omega
  have h2 := h.len.2
  omega
theorem none_str : (Str.ofString "None") = sx [78, 111, 110, 101] := by decide +kernel
theorem part_text_ok {p : Int × Option Int} (h : OkP p) : m_part_text [encP p] = .ok (.str (sx (partL p))) := by
  obtain ⟨i, o⟩ := p
  have h1 : 1 ≤ i ∧ i ≤ 20 := h.len
  have hi := strI (i := i) (by omega) (by omega)
  cases o with
  | none =>
    simp only [m_part_text, runD_ap]
    simp [encO, hi, partL]
  | some t =>
    have ht := h.tool t rfl
    have hs := strI (i := t) (by omega) (by omega)
    have hl := numI_len i
    have hl2 := numI_len t
    have c1 := oCatS_sx (a := numI i) (b := [42]) (by simp; omega)
    have c2 := oCatS_sx (a := numI i ++ [42]) (b := numI t) (by simp; omega)
    simp only [m_part_text, runD_ap]
    simp [encO, hi, hs, star_text, c1, c2, partL]
theorem join_words {e : Er} (h : OkE e) : oJoin (.str (sx [32])) (.list (.str (sx (numI e.every)) :: .str (sx (numI e.due)) :: .str (sx (numI e.late)) :: e.parts.map fun p => .str (sx (partL p)))) = some (.str (sx (textE e))) := by
  have h2 := words_sum e
  have h3 := h.parts.2
  have := oJoin_sx (c := 32) (ws := wordsE e) (by omega) (by simp [wordsE]; omega)
  unfold wordsE at this
  simp only [List.map_cons, List.map_map] at this
  exact this
theorem text_of_ok {es : List Er} (h : OkEs es) : m_text_of [encEs es] = .ok (.str (sx (textOf es))) := by
  simp only [m_text_of, runD_ap]
  simp [-forS_ap]
  refine nx_toR (for_nx encE (fun pre ρ => ∃ a2 a3 a4 a5 : Option PyData, ρ = [some (encEs es), some (.list (pre.map fun e => .str (sx (textE e)))), a2, a3, a4, a5, none, none]) es rfl ⟨none, none, none, none, rfl⟩ fun pre e post ρ hi ⟨a2, a3, a4, a5, hρ⟩ => ?_) fun ρ ⟨a2, a3, a4, a5, hρ⟩ => ?_
  · subst hρ
    have he := h.all e (by rw [hi]; simp)
    have hl : pre.length < 6 := by
      have := congrArg List.length hi
      have := h.len.2
      simp at *
      omega
    refine ⟨_, rfl, ?_⟩
    have hc : compD (.one 7) teYes (eCall m_part_text (aCons (eVar 7) aNil)) [some (encEs es), none, some (.int e.every), some (.int e.due), some (.int e.late), some (.tuple (e.parts.map encP)), none, none] (e.parts.map encP) = .ok (e.parts.map fun p => PyData.str (sx (partL p))) :=
      compD_map encP (fun p => PyData.str (sx (partL p))) e.parts fun p hp => ⟨_, rfl, by simp [part_text_ok (he.part p hp)]⟩
    have k1 := he.every
    have k2 := he.late
    have k3 := he.due
    have k4 := he.parts
    have s1 := strI (i := e.every) (by omega) (by omega)
    have s2 := strI (i := e.due) (by omega) (by omega)
    have s3 := strI (i := e.late) (by omega) (by omega)
    have hj := join_words he
    have hRl : (e.parts.map fun p => PyData.str (sx (partL p))).length ≤ 4 := by simp; omega
    generalize (e.parts.map fun p => PyData.str (sx (partL p))) = R at *
    refine ⟨[some (encEs es), some (.list ((pre ++ [e]).map fun e => .str (sx (textE e)))), some (.int e.every), some (.int e.due), some (.int e.late), some (.tuple (e.parts.map encP)), none, none], by simp [blank_text, s1, s2, s3, show e.parts.length < 16777216 by omega, hc, hj, show pre.length < 16777216 by omega, show 3 + R.length ≤ 16777216 by omega], some (.int e.every), some (.int e.due), some (.int e.late), some (.tuple (e.parts.map encP)), by simp⟩
  · subst hρ
    have hc : compD (.one 6) teYes (eOp oCatS (eVar 6) (eC (.str "\n"))) [some (encEs es), some (.list (es.map fun e => .str (sx (textE e)))), a2, a3, a4, a5, none, none] (es.map fun e => .str (sx (textE e))) = .ok (es.map fun e => PyData.str (sx (textE e ++ [10]))) :=
      compD_map (fun e => PyData.str (sx (textE e))) (fun e => PyData.str (sx (textE e ++ [10]))) es fun e he => ⟨_, rfl, by
        have := textE_len (h.all e he)
        simp [end_text, oCatS_sx (a := textE e) (b := [10]) (by simp; omega)]⟩
    have hj : oJoin (.str (sx [])) (.list (es.map fun e => PyData.str (sx (textE e ++ [10])))) = some (.str (sx (textOf es))) := by
      have hs : ((es.map fun e => textE e ++ [10]).map List.length).sum ≤ 100000 := by
        have := textOf_len h
        unfold textOf at this
        rw [List.length_flatten] at this
        omega
      have := oJoin_E hs
      rw [List.map_map] at this
      exact this
    have := h.len.2
    generalize (es.map fun e => PyData.str (sx (textE e ++ [10]))) = R at *
    simp [none_text, show es.length < 16777216 by omega, hc, hj]
theorem shown_ok {es : List Er} (h : OkEs es) : m_shown [encEs es] = .ok (.str (sx (textOf es))) := by
  simp [m_shown, runD_ap, checked_ok h, text_of_ok h]
end L2.DL
set_option maxHeartbeats 1000000
namespace L2.DL
open PySem PySem.Spec PyProof.Rows PySem.NumText

/-! ### the text, by the law -/
theorem textOf_snoc (es : List Er) (e : Er) : textOf (es ++ [e]) = textOf es ++ (textE e ++ [10]) := by simp [textOf]
theorem law_text_ok {es : List Er} (h : OkEs es) : m__law_text [encEs es] = .ok (.str (sx (textOf es))) := by
  have hall := textOf_len h
  simp only [m__law_text, runD_ap]
  simp [-forS_ap]
  refine nx_toR (for_nx encE (fun pre ρ => ∃ a2 a3 a4 a5 a6 a7 a8 : Option PyData, ρ = [some (encEs es), some (.str (sx (textOf pre))), a2, a3, a4, a5, a6, a7, a8]) es rfl ⟨none, none, none, none, none, none, none, by simp [none_text, textOf]⟩ fun pre e post ρ hi ⟨a2, a3, a4, a5, a6, a7, a8, hρ⟩ => ?_) fun ρ ⟨a2, a3, a4, a5, a6, a7, a8, hρ⟩ => ?_
  · subst hρ
    have he := h.all e (by rw [hi]; simp)
    have k1 := he.every
    have k2 := he.late
    have k3 := he.due
    have k4 := he.parts
    have s1 := strI (i := e.every) (by omega) (by omega)
    have s2 := strI (i := e.due) (by omega) (by omega)
    have s3 := strI (i := e.late) (by omega) (by omega)
    have htl := textE_len he
    have hpl : (textOf pre).length ≤ 300 := by
      have : (textOf es).length = (textOf pre).length + (textOf (e :: post)).length := by rw [hi]; simp [textOf]
      omega
    refine ⟨_, rfl, ?_⟩
    simp [-forS_ap, s1, s2, s3]
    refine nx_then (for_nx encP (fun pp ρ => ∃ b7 b8 : Option PyData, ρ = [some (encEs es), some (.str (sx (textOf pre))), some (.int e.every), some (.int e.due), some (.int e.late), some (.tuple (e.parts.map encP)), some (.list (.str (sx (numI e.every)) :: .str (sx (numI e.due)) :: .str (sx (numI e.late)) :: pp.map fun p => .str (sx (partL p)))), b7, b8]) e.parts rfl ⟨a7, a8, rfl⟩ fun pp p qq ρ hq ⟨b7, b8, hρ⟩ => ?_) fun ρ ⟨b7, b8, hρ⟩ => ?_
    · subst hρ
      have hp := he.part p (by rw [hq]; simp)
      obtain ⟨i, o⟩ := p
      have h1 : 1 ≤ i ∧ i ≤ 20 := hp.len
      have hs := strI (i := i) (by omega) (by omega)
      have hl := numI_len i
      have hppl : pp.length ≤ 4 := by
        have := congrArg List.length hq
        simp at this
        omega
      have c1 := oCatS_sx (a := numI i) (b := [42]) (by simp; omega)
      refine ⟨_, rfl, ?_⟩
      cases o with
      | none =>
        have c2 := oCatS_sx (a := numI i ++ [42]) (b := [78, 111, 110, 101]) (by simp; omega)
        have hsn : oStrN .none = some (.str (sx [78, 111, 110, 101])) := by rw [← none_str]; rfl
        have hix : atI [PyData.str (sx (numI i ++ 42 :: [78, 111, 110, 101])), .str (sx (numI i))] 1 = some (.str (sx (numI i))) := rfl
        refine ⟨[some (encEs es), some (.str (sx (textOf pre))), some (.int e.every), some (.int e.due), some (.int e.late), some (.tuple (e.parts.map encP)), some (.list (.str (sx (numI e.every)) :: .str (sx (numI e.due)) :: .str (sx (numI e.late)) :: (pp ++ [(i, none)]).map fun p => .str (sx (partL p)))), some (.int i), some .none], ?_, some (.int i), some .none, rfl⟩
        simp at c2
        simp [encO, hs, hsn, star_text, c1, c2, hix, show pp.length + 1 + 1 + 1 < 16777216 by omega, partL]
      | some t =>
        have ht := hp.tool t rfl
        have hst := strI (i := t) (by omega) (by omega)
        have hl2 := numI_len t
        have c2 := oCatS_sx (a := numI i ++ [42]) (b := numI t) (by simp; omega)
        have hix : atI [PyData.str (sx (numI i ++ 42 :: numI t)), .str (sx (numI i))] 0 = some (.str (sx (numI i ++ 42 :: numI t))) := rfl
        refine ⟨[some (encEs es), some (.str (sx (textOf pre))), some (.int e.every), some (.int e.due), some (.int e.late), some (.tuple (e.parts.map encP)), some (.list (.str (sx (numI e.every)) :: .str (sx (numI e.due)) :: .str (sx (numI e.late)) :: (pp ++ [(i, some t)]).map fun p => .str (sx (partL p)))), some (.int i), some (.int t)], ?_, some (.int i), some (.int t), rfl⟩
        simp at c2
        simp [encO, hs, hst, star_text, c1, c2, hix, show pp.length + 1 + 1 + 1 < 16777216 by omega, partL]
    · subst hρ
      have hj := join_words he
      have c1 := oCatS_sx (a := textOf pre) (b := textE e) (by omega)
      have c2 := oCatS_sx (a := textOf pre ++ textE e) (b := [10]) (by simp; omega)
      simp at c2
      refine ⟨[some (encEs es), some (.str (sx (textOf (pre ++ [e])))), some (.int e.every), some (.int e.due), some (.int e.late), some (.tuple (e.parts.map encP)), some (.list (.str (sx (numI e.every)) :: .str (sx (numI e.due)) :: .str (sx (numI e.late)) :: e.parts.map fun p => .str (sx (partL p)))), b7, b8], ?_, _, _, _, _, _, _, _, rfl⟩
      rw [textOf_snoc]
      simp [blank_text, end_text, hj, c1, c2]
  · subst hρ
    simp
end L2.DL
set_option maxHeartbeats 1000000
namespace L2.DL
open PySem PySem.Spec PyProof.Rows PySem.NumText

/-! ### read -/
theorem okL_split {c : Nat} {l w : List Nat} (h : okL l) (hw : w ∈ splitL c l) : okL w := fun d hd => h d (splitL_mem hw hd)
theorem joinL_mem {c d : Nat} : ∀ {ws : List (List Nat)}, d ∈ joinL c ws → d = c ∨ ∃ w ∈ ws, d ∈ w
  | [], h => by simp [joinL] at h
  | [w], h => .inr ⟨w, by simp, h⟩
  | w :: v :: r, h => by
    rw [joinL_cons (by simp)] at h
    rcases List.mem_append.mp h with h | h
    · exact .inr ⟨w, by simp, h⟩
    · rcases List.mem_cons.mp h with h | h
      · exact .inl h
      · rcases joinL_mem h with h | ⟨x, hx, h⟩
        · exact .inl h
        · exact .inr ⟨x, List.mem_cons_of_mem _ hx, h⟩
theorem numI_sign {i : Int} (h0 : 0 ≤ i) (h1 : i < 100) : ∀ c ∈ numI i, 48 ≤ c ∧ c ≤ 57 := numL_digit (by omega)
theorem partL_sign {p : Int × Option Int} (h : OkP p) : ∀ c ∈ partL p, c = 42 ∨ (48 ≤ c ∧ c ≤ 57) := by
  obtain ⟨i, o⟩ := p
  have h1 : 1 ≤ i ∧ i ≤ 20 := h.len
  intro c hc
  cases o with
  | none => exact .inr (numI_sign (i := i) (by omega) (by omega) c hc)
  | some t =>
    have ht := h.tool t rfl
    rcases List.mem_append.mp hc with hc | hc
    · exact .inr (numI_sign (i := i) (by omega) (by omega) c hc)
    · rcases List.mem_cons.mp hc with hc | hc
      · exact .inl hc
      · exact .inr (numI_sign (i := t) (by omega) (by omega) c hc)
theorem words_sign {e : Er} (h : OkE e) : ∀ w ∈ wordsE e, ∀ c ∈ w, c = 42 ∨ (48 ≤ c ∧ c ≤ 57) := by
  have k1 := h.every
  have k2 := h.late
  have k3 := h.due
  intro w hw c hc
  unfold wordsE at hw
  simp only [List.mem_cons, List.mem_map] at hw
  rcases hw with hw | hw | hw | ⟨p, hp, hw⟩
  · subst hw; exact .inr (numI_sign (by omega) (by omega) c hc)
  · subst hw; exact .inr (numI_sign (by omega) (by omega) c hc)
  · subst hw; exact .inr (numI_sign (by omega) (by omega) c hc)
  · subst hw; exact partL_sign (h.part p hp) c hc
theorem textE_sign {e : Er} (h : OkE e) : ∀ c ∈ textE e, c = 32 ∨ c = 42 ∨ (48 ≤ c ∧ c ≤ 57) := by
  intro c hc
  rcases joinL_mem hc with hc | ⟨w, hw, hc⟩
  · exact .inl hc
  · exact .inr (words_sign h w hw c hc)
theorem textOf_ok {es : List Er} (h : OkEs es) : okL (textOf es) := by
  intro c hc
  unfold textOf at hc
  obtain ⟨l, hl, hc⟩ := List.mem_flatten.mp hc
  obtain ⟨e, he, rfl⟩ := List.mem_map.mp hl
  rcases List.mem_append.mp hc with hc | hc
  · have := textE_sign (h.all e he) c hc
    omega
  · simp at hc
    omega
theorem oNe_sx {a b : List Nat} (ha : okL a) (hb : okL b) : oNe (.str (sx a)) (.str (sx b)) = some (.bool (!decide (a = b))) := by
  unfold oNe
  rw [if_pos ⟨(lay_sx 1 ha).shaped, (lay_sx 1 hb).shaped⟩, eqv_sx]
noncomputable def progRead (t : List Nat) : Option (List Er) := if (splitL 10 t).getLast? = some [] then (match allSome progLine (splitL 10 t).dropLast with
  | some es => if okEsB es = true ∧ textOf es = t then some es else none
  | none => none) else none
theorem cut_init (xs : List PyData) : cutD xs none (some (-1)) = xs.dropLast := by
  cases xs with
  | nil => rfl
  | cons x r =>
    unfold cutD HT.sIx
    simp
    rw [List.dropLast_eq_take]
    congr 1
    simp
    omega
theorem read_ok {t : List Nat} (ht : okL t) (hl : t.length ≤ 10000) : m_read [.str (sx t)] = (match progRead t with
    | some es => .ok (encEs es)
    | none => .err "NoText") := by
  have hs := oSplit_sx (c := 10) (l := t) (by omega)
  have hlen := splitL_many 10 t
  have hmem : ∀ v ∈ splitL 10 t, v.length ≤ 100000 := fun v hv => by have := splitL_len hv; omega
  have hok : ∀ v ∈ splitL 10 t, okL v := fun v hv => okL_split ht hv
  have hne := splitL_ne 10 t
  have hstr : isaStr (.str (sx t)) = some (.bool true) := rfl
  unfold progRead
  obtain ⟨r, q, hS⟩ : ∃ r q, splitL 10 t = r ++ [q] := ⟨_, _, (List.dropLast_concat_getLast hne).symm⟩
  rw [hS] at hs hlen hmem hok ⊢
  have hq := hok q (by simp)
  have hlast : atI ((r ++ [q]).map fun w => PyData.str (sx w)) (-1) = some (.str (sx q)) := by
    rw [List.map_append, List.map_singleton]
    exact atI_last _ _
  have hn := oNe_sx (a := q) (b := []) hq (fun c hc => by simp at hc)
  rw [show (r ++ [q]).getLast? = some q by simp, List.dropLast_concat]
  by_cases hq0 : q = []
  · rw [if_pos (by rw [hq0])]
    rw [decide_eq_true hq0] at hn
    have hcut : cutD ((r ++ [q]).map fun w => PyData.str (sx w)) none (some (-1)) = r.map fun w => PyData.str (sx w) := by
      rw [cut_init, List.map_append, List.map_singleton, List.dropLast_concat]
    have hrl : r.length ≤ 10001 := by simp at hlen; omega
    have h1 := compDE_map (t := .one 3) (e := eCall m_errand_of (aCons (eVar 3) aNil)) (ρ := [some (.str (sx t)), some (.list ((r ++ [q]).map fun w => .str (sx w))), none, none]) (q := "NoText") (fun w => PyData.str (sx w)) progLine encE r fun w hw => ⟨_, rfl, by
      have := errand_of_ok (hmem w (by simp [hw]))
      simp [this]
      cases progLine w <;> rfl⟩
    cases e1 : allSome progLine r with
    | none =>
      rw [e1] at h1
      generalize ((r ++ [q]).map fun w => PyData.str (sx w)) = L at *
      simp only [m_read, runD_ap]
      simp [end_text, none_text, hstr, hs, hlast, hn, hcut, eCompE, show r.length < 16777216 by omega, h1]
    | some es =>
      rw [e1] at h1
      have hel := allSome_len e1
      have hare := are_errands_any es
      generalize ((r ++ [q]).map fun w => PyData.str (sx w)) = L at *
      cases hE : okEsB es with
      | false =>
        rw [hE] at hare
        have hare' : m_are_errands [.tuple (es.map encE)] = _ := hare
        simp only [m_read, runD_ap]
        simp [end_text, none_text, hstr, hs, hlast, hn, hcut, eCompE, show r.length < 16777216 by omega, h1, hare', encEs, hE]
      | true =>
        rw [hE] at hare
        have hO := (okEsB_iff es).mp hE
        have hto := text_of_ok hO
        have hare' : m_are_errands [.tuple (es.map encE)] = _ := hare
        have hto' : m_text_of [.tuple (es.map encE)] = _ := hto
        have hn2 := oNe_sx (textOf_ok hO) ht
        by_cases hT : textOf es = t
        · rw [decide_eq_true hT, hT] at hn2
          simp only [m_read, runD_ap]
          simp [end_text, none_text, hstr, hs, hlast, hn, hcut, eCompE, show r.length < 16777216 by omega, h1, hare', hto', hn2, encEs, hE, hT]
        · rw [decide_eq_false hT] at hn2
          simp only [m_read, runD_ap]
          simp [end_text, none_text, hstr, hs, hlast, hn, hcut, eCompE, show r.length < 16777216 by omega, h1, hare', hto', hn2, encEs, hE, hT]
  · rw [if_neg (fun z => hq0 (Option.some.inj z))]
    rw [decide_eq_false hq0] at hn
    generalize ((r ++ [q]).map fun w => PyData.str (sx w)) = L at *
    simp only [m_read, runD_ap]
    simp [end_text, none_text, hstr, hs, hlast, hn]
theorem read_no {d : PyData} (h : isaStr d = some (.bool false)) : m_read [d] = .err "NoText" := by
  simp only [m_read, runD_ap]
  simp [h]
end L2.DL
set_option maxHeartbeats 1000000
namespace L2.DL
open PySem PySem.Spec PyProof.Rows PySem.NumText

/-! ### what is due, by the law -/
theorem loop_pre_find {α : Type} {t : Tgt} {fb : Sf} (enc : α → PyData) (R : List α → Env → Prop) (out : α → Option PyData) : ∀ (xs pre : List α) (ρ : Env), R pre ρ → (∀ p a q ρ, pre ++ xs = p ++ a :: q → R p ρ → ∃ ρ1, bindT t (enc a) ρ = .ok ρ1 ∧ (match out a with
      | some d => fb ρ1 = .ret d
      | none => Nx (fb ρ1) (R (p ++ [a])))) →
    match xs.findSome? out with
    | some d => loopS t fb (xs.map enc) ρ = .ret d
    | none => ∃ ρ', loopS t fb (xs.map enc) ρ = .nx ρ' ∧ R (pre ++ xs) ρ'
  | [], pre, ρ, r, _ => ⟨ρ, rfl, by simpa using r⟩
  | a :: xs, pre, ρ, r, h => by
    obtain ⟨ρ1, h1, h2⟩ := h pre a xs ρ rfl r
    rw [List.findSome?_cons, List.map_cons]
    cases e : out a with
    | some d =>
      rw [e] at h2
      dsimp only at h2 ⊢
      unfold loopS
      rw [h1]
      dsimp only
      rw [h2]
    | none =>
      rw [e] at h2
      obtain ⟨ρ2, h3, h4⟩ := h2
      have ih := loop_pre_find enc R out xs (pre ++ [a]) ρ2 h4 fun p b q ρ hb => h p b q ρ (by rw [← hb]; simp)
      have hL : loopS t fb (enc a :: xs.map enc) ρ = loopS t fb (xs.map enc) ρ2 := by
        conv => lhs; unfold loopS
        rw [h1]
        dsimp only
        rw [h3]
      rw [hL]
      rw [show pre ++ [a] ++ xs = pre ++ a :: xs by simp] at ih
      exact ih
theorem for_pre_find {α : Type} {M : List Nat} {it : Itr'} {t : Tgt} {fb g : Sf} {ρ : Env} {v : Res PyData} (enc : α → PyData) (R : List α → Env → Prop) (out : α → Option PyData) (xs : List α) (hit : it (wipeD ρ M) = .ok (xs.map enc)) (h0 : R [] ρ)
    (hs : ∀ pre a post ρ, xs = pre ++ a :: post → R pre ρ → ∃ ρ1, bindT t (enc a) ρ = .ok ρ1 ∧ (match out a with
      | some d => fb ρ1 = .ret d
      | none => Nx (fb ρ1) (R (pre ++ [a]))))
    (hk : match xs.findSome? out with
      | some d => v = .ok d
      | none => ∀ ρ', R xs ρ' → (g ρ').toR = v) : ((forS M it t fb ρ).andThen g).toR = v := by
  have z := loop_pre_find (t := t) (fb := fb) enc R out xs [] ρ h0 hs
  rw [forS_ap, hit, toS_ok]
  cases e : xs.findSome? out with
  | some d =>
    rw [e] at z hk
    dsimp only at z hk
    rw [z, hk]
    rfl
  | none =>
    rw [e] at z hk
    obtain ⟨ρ', h1, h2⟩ := z
    rw [h1]
    exact hk ρ' h2
noncomputable def lawDue (t : List Nat) : Option (List Er) := if t.drop (t.length - 1) = [10] then (match allSome lawLine (splitL 10 t.dropLast) with
  | some es => if okEsB es = true then some es else none
  | none => none) else none
def noLine (l : List Nat) : Option PyData := match lawLine l with
  | none => some .none
  | some _ => none
def lineD (l : List Nat) : PyData := encE ((lawLine l).getD default)
theorem lines_due : ∀ L : List (List Nat), match allSome lawLine L with
    | some es => L.findSome? noLine = none ∧ L.map lineD = es.map encE
    | none => L.findSome? noLine = some .none
  | [] => ⟨rfl, rfl⟩
  | l :: r => by
    have ih := lines_due r
    unfold allSome
    rw [List.findSome?_cons]
    cases e : lawLine l with
    | none =>
      have : noLine l = some .none := by unfold noLine; rw [e]
      rw [this]
    | some x =>
      have h1 : noLine l = none := by unfold noLine; rw [e]
      have h2 : lineD l = encE x := by unfold lineD; rw [e]; rfl
      rw [h1]
      dsimp only
      cases e2 : allSome lawLine r with
      | none => rw [e2] at ih; exact ih
      | some es => rw [e2] at ih; exact ⟨ih.1, by rw [List.map_cons, h2, ih.2]; rfl⟩
theorem due_no {d : PyData} (h : isaStr d = some (.bool false)) : m__law_due [d] = .ok .none := by
  simp only [m__law_due, runD_ap]
  simp [h]
theorem due_ok {t : List Nat} (ht : okL t) (hl : t.length ≤ 10000) : m__law_due [.str (sx t)] = .ok (match lawDue t with
    | some es => encEs es
    | none => .none) := by
  have hstr : isaStr (.str (sx t)) = some (.bool true) := rfl
  have hsl := oSliceS_sx (l := t) (by omega) (some (-1)) none
  rw [cut_last_sx] at hsl
  have hn := oNe_sx (a := t.drop (t.length - 1)) (b := [10]) (fun c hc => ht c (List.mem_of_mem_drop hc)) (fun c hc => by simp at hc; omega)
  unfold lawDue
  by_cases hq : t.drop (t.length - 1) = [10]
  · rw [if_pos hq]
    rw [decide_eq_true hq] at hn
    have hsl2 := oSliceS_sx (l := t) (by omega) none (some (-1))
    rw [cut_init_sx] at hsl2
    have htd : t.dropLast.length ≤ 10000 := by simp; omega
    have hokd : okL t.dropLast := fun c hc => ht c (List.dropLast_subset _ hc)
    have hs := oSplit_sx (c := 10) (l := t.dropLast) (by omega)
    have hlen := splitL_many 10 t.dropLast
    have hmem : ∀ v ∈ splitL 10 t.dropLast, v.length ≤ 10000 := fun v hv => by have := splitL_len hv; omega
    have hok : ∀ v ∈ splitL 10 t.dropLast, okL v := fun v hv => okL_split hokd hv
    have hdue := lines_due (splitL 10 t.dropLast)
    generalize splitL 10 t.dropLast = L at *
    simp only [m__law_due, runD_ap]
    simp [-forS_ap, hstr, end_text, hsl, hn]
    refine for_pre_find (fun w => PyData.str (sx w)) (fun pre ρ => ∃ a2 a3 a4 : Option PyData, ρ = [some (.str (sx t)), some (.list (pre.map lineD)), a2, a3, a4, none]) noLine L (by simp [end_text, hsl2, hs]) ⟨none, none, none, rfl⟩ (fun pre l post ρ hi ⟨a2, a3, a4, hρ⟩ => ?_) ?_
    · subst hρ
      have hll := hmem l (by rw [hi]; simp)
      have hlo := hok l (by rw [hi]; simp)
      have hpl : pre.length < 16777216 := by
        have := congrArg List.length hi
        simp at this
        omega
      have hs3 := oSplit_sx (c := 32) (l := l) (by omega)
      have hlen3 := splitL_many 32 l
      have hmem3 : ∀ v ∈ splitL 32 l, v.length ≤ 100000 := fun v hv => by have := splitL_len hv; omega
      have hok3 : ∀ v ∈ splitL 32 l, okL v := fun v hv => okL_split hlo hv
      have hline : lawLine l = (match splitL 32 l with
        | a :: b :: c :: d :: r => some ⟨lawNum a, lawNum b, lawNum c, (d :: r).map lawPart⟩
        | _ => none) := rfl
      refine ⟨_, rfl, ?_⟩
      unfold noLine
      have hcN : ∀ (ws : List (List Nat)) (S : PyData) (o : Option PyData), (∀ v ∈ ws, v.length ≤ 100000 ∧ okL v) → compD (.one 5) teYes (eCall m__law_number (aCons (eVar 5) aNil)) [some (.str (sx t)), none, some (.str (sx l)), some S, o, none] (ws.map fun w => .str (sx w)) = .ok (ws.map fun w => PyData.int (lawNum w)) := fun ws S o h =>
        compD_map (fun w => PyData.str (sx w)) (fun w => PyData.int (lawNum w)) ws fun w hw => ⟨_, rfl, by simp [law_number_ok (h w hw).2 (h w hw).1]⟩
      have hcP : ∀ (ws : List (List Nat)) (S : PyData) (o : Option PyData), (∀ v ∈ ws, v.length ≤ 100000 ∧ okL v) → compD (.one 5) teYes (eCall m__law_part (aCons (eVar 5) aNil)) [some (.str (sx t)), none, some (.str (sx l)), some S, o, none] (ws.map fun w => .str (sx w)) = .ok (ws.map fun w => encP (lawPart w)) := fun ws S o h =>
        compD_map (fun w => PyData.str (sx w)) (fun w => encP (lawPart w)) ws fun w hw => ⟨_, rfl, by simp [law_part_ok (h w hw).2 (h w hw).1]⟩
      unfold lineD
      generalize splitL 32 l = S at *
      match S with
      | [] =>
        rw [hline]
        have hcut : cutD [] none (some 3) = [] := rfl
        have h1 := hcN [] (.list []) a4 (by simp)
        simp at h1
        simp [blank_text, hs3, hcut, h1]
      | [a] =>
        rw [hline]
        have hcut : cutD [PyData.str (sx a)] none (some 3) = [.str (sx a)] := rfl
        have h1 := hcN [a] (.list [.str (sx a)]) a4 (fun v hv => ⟨hmem3 v hv, hok3 v hv⟩)
        simp only [List.map_cons, List.map_nil] at h1
        simp [blank_text, hs3, hcut, h1]
      | [a, b] =>
        rw [hline]
        have hcut : cutD [PyData.str (sx a), .str (sx b)] none (some 3) = [.str (sx a), .str (sx b)] := rfl
        have h1 := hcN [a, b] (.list [.str (sx a), .str (sx b)]) a4 (fun v hv => ⟨hmem3 v hv, hok3 v hv⟩)
        simp only [List.map_cons, List.map_nil] at h1
        simp [blank_text, hs3, hcut, h1]
      | [a, b, c] =>
        rw [hline]
        have hcut : cutD [PyData.str (sx a), .str (sx b), .str (sx c)] none (some 3) = [.str (sx a), .str (sx b), .str (sx c)] := rfl
        have h1 := hcN [a, b, c] (.list [.str (sx a), .str (sx b), .str (sx c)]) a4 (fun v hv => ⟨hmem3 v hv, hok3 v hv⟩)
        simp only [List.map_cons, List.map_nil] at h1
        simp [blank_text, hs3, hcut, h1]
      | a :: b :: c :: d :: r =>
        rw [hline]
        have hl4 : ¬ (r.length : Int) + 1 + 1 + 1 + 1 < 4 := by omega
        have hr : r.length < 16777215 := by simp at hlen3; omega
        have s1 : cutD (PyData.str (sx a) :: .str (sx b) :: .str (sx c) :: .str (sx d) :: r.map fun w => .str (sx w)) none (some 3) = [a, b, c].map fun w => .str (sx w) := cut_to (n := 3) (by simp)
        have s2 : cutD (PyData.str (sx a) :: .str (sx b) :: .str (sx c) :: .str (sx d) :: r.map fun w => .str (sx w)) (some 3) none = (d :: r).map fun w => .str (sx w) := cut_from (n := 3) (by simp)
        have h1 := hcN [a, b, c] (.list ((a :: b :: c :: d :: r).map fun w => .str (sx w))) a4 (fun v hv => ⟨hmem3 v (by
          simp at hv
          rcases hv with h | h | h <;> simp [h]), hok3 v (by
          simp at hv
          rcases hv with h | h | h <;> simp [h])⟩)
        have h2 := hcP (d :: r) (.list ((a :: b :: c :: d :: r).map fun w => .str (sx w))) (some (.list ([a, b, c].map fun w => PyData.int (lawNum w)))) (fun v hv => ⟨hmem3 v (by
          rcases List.mem_cons.mp hv with h | h <;> simp [h]), hok3 v (by
          rcases List.mem_cons.mp hv with h | h <;> simp [h])⟩)
        have hlr : ((d :: r).map fun w => PyData.str (sx w)).length < 16777216 := by simp; omega
        have i1 : atI [PyData.int (lawNum a), .int (lawNum b), .int (lawNum c)] 1 = some (.int (lawNum b)) := rfl
        have i2 : atI [PyData.int (lawNum a), .int (lawNum b), .int (lawNum c)] 2 = some (.int (lawNum c)) := rfl
        rw [← s1] at h1
        rw [← s2] at h2 hlr
        have hl3 : (cutD (PyData.str (sx a) :: .str (sx b) :: .str (sx c) :: .str (sx d) :: r.map fun w => .str (sx w)) none (some 3)).length < 16777216 := by rw [s1]; simp
        have hnx : ∀ (x : PyData), x = encE ⟨lawNum a, lawNum b, lawNum c, (d :: r).map lawPart⟩ → pre.map (fun l => encE ((lawLine l).getD default)) ++ [x] = (pre ++ [l]).map fun l => encE ((lawLine l).getD default) := fun x hx => by
          rw [List.map_append, List.map_singleton, hline, hx]
          rfl
        rw [← hnx _ rfl]
        dsimp only
        simp only [List.map_cons, List.map_nil] at h1 h2 hs3
        have hE : (PyData.tuple [.int (lawNum a), .int (lawNum b), .int (lawNum c), .tuple (encP (lawPart d) :: r.map fun w => encP (lawPart w))]) = encE ⟨lawNum a, lawNum b, lawNum c, lawPart d :: r.map lawPart⟩ := by
          unfold encE
          simp [List.map_map, Function.comp_def]
        rw [List.map_cons, ← hE]
        refine ⟨_, by simp only [blank_text]; simp [hs3, hl4, hl3, h1, hlr, h2, i1, i2, hpl]; exact ⟨rfl, rfl, rfl⟩, _, _, _, rfl⟩
    · cases e1 : allSome lawLine L with
      | none =>
        rw [e1] at hdue
        rw [hdue]
      | some es =>
        rw [e1] at hdue
        rw [hdue.1]
        rintro ρ' ⟨a2, a3, a4, hρ⟩
        subst hρ
        have hck := checked_any es
        unfold encEs at hck
        rw [hdue.2]
        cases hE : okEsB es with
        | true =>
          rw [hE, if_pos rfl] at hck
          simp [tryRetO, hck, encEs, hE]
        | false =>
          rw [hE, if_neg (by simp)] at hck
          simp [tryRetO, hck, hE]
  · rw [if_neg hq]
    rw [decide_eq_false hq] at hn
    simp only [m__law_due, runD_ap]
    simp [hstr, end_text, hsl, hn]
end L2.DL
set_option maxHeartbeats 1000000
namespace L2.DL
open PySem PySem.Spec PyProof.Rows PySem.NumText

/-! ### both readings are one -/
theorem numI_law {w : List Nat} (h : 0 ≤ lawNum w) : numI (lawNum w) = w ∧ progNum w = some (lawNum w) := by
  obtain ⟨k, hk, h1, h2⟩ := lawNum_of h
  rw [h1]
  refine ⟨?_, ?_⟩
  · rw [h2]; rfl
  · rw [h2]; exact progNum_num hk
theorem numI_free {i : Int} {c : Nat} (h0 : 0 ≤ i) (h1 : i < 100) (hc : c < 48) : c ∉ numI i := fun z => by
  have := numI_sign h0 h1 c z
  omega
theorem lawNum_lt (w : List Nat) : lawNum w < 100 := by
  by_cases h : 0 ≤ lawNum w
  · obtain ⟨k, hk, h1, _⟩ := lawNum_of h
    omega
  · omega
theorem part_law {w : List Nat} (h : OkP (lawPart w)) : partL (lawPart w) = w ∧ progPart w = some (lawPart w) := by
  unfold lawPart at h ⊢
  cases e : cutAt 42 w with
  | none =>
    rw [e] at h
    have h1 := h.len
    dsimp only at h1 ⊢
    obtain ⟨k1, k2⟩ := numI_law (w := w) (by omega)
    refine ⟨k1, ?_⟩
    unfold progPart
    rw [splitL_last w (cutAt_none e)]
    dsimp only
    rw [k2]
    rfl
  | some p =>
    obtain ⟨a, b⟩ := p
    rw [e] at h
    have h1 := h.len
    have h2 := h.tool (lawNum b) rfl
    obtain ⟨k1, k2⟩ := numI_law (w := a) (by dsimp only at h1; omega)
    obtain ⟨k3, k4⟩ := numI_law (w := b) (by omega)
    obtain ⟨j1, j2⟩ := cutAt_some e
    have hb : 42 ∉ b := by
      rw [← k3]
      exact numI_free h2.1 (by omega) (by omega)
    refine ⟨?_, ?_⟩
    · show numI (lawNum a) ++ 42 :: numI (lawNum b) = w
      rw [k1, k3, j1]
    · unfold progPart
      rw [j1, splitL_word a b j2, splitL_last b hb]
      dsimp only
      rw [k2, k4]
      rfl
theorem line_law {l : List Nat} {e : Er} (h : lawLine l = some e) (he : OkE e) : textE e = l ∧ progLine l = some e := by
  have hj := joinL_splitL (c := 32) l
  unfold lawLine at h
  unfold progLine
  generalize splitL 32 l = S at *
  match S with
  | [] => cases h
  | [a] => cases h
  | [a, b] => cases h
  | [a, b, c] => cases h
  | a :: b :: c :: d :: r =>
    cases h
    have k1 := he.every
    have k2 := he.late
    have k3 := he.due
    dsimp only at k1 k2 k3
    obtain ⟨a1, a2⟩ := numI_law (w := a) (by omega)
    obtain ⟨b1, b2⟩ := numI_law (w := b) (by omega)
    obtain ⟨c1, c2⟩ := numI_law (w := c) (by omega)
    have hp : ∀ w ∈ d :: r, OkP (lawPart w) := fun w hw => he.part _ (List.mem_map.mpr ⟨w, hw, rfl⟩)
    refine ⟨?_, ?_⟩
    · rw [← hj]
      unfold textE wordsE
      dsimp only
      rw [a1, b1, c1, List.map_map]
      congr 4
      conv => rhs; rw [← List.map_id (d :: r)]
      exact List.map_congr_left fun w hw => (part_law (hp w hw)).1
    · dsimp only
      rw [allSome_map (f := progNum) (g := lawNum) (xs := [a, b, c]) fun w hw => by
        simp at hw
        rcases hw with h | h | h <;> subst h <;> assumption]
      rw [allSome_map (f := progPart) (g := lawPart) (xs := d :: r) fun w hw => (part_law (hp w hw)).2]
      rfl
theorem splitL_snoc (c : Nat) : ∀ u : List Nat, splitL c (u ++ [c]) = splitL c u ++ [[]]
  | [] => by simp [splitL]
  | x :: u => by
    have ih := splitL_snoc c u
    rw [List.cons_append]
    unfold splitL
    by_cases hx : x = c
    · rw [if_pos hx, if_pos hx, ih]
      rfl
    · rw [if_neg hx, if_neg hx, ih]
      cases e : splitL c u with
      | nil => exact absurd e (splitL_ne c u)
      | cons a t => rfl
theorem join_ends (c : Nat) : ∀ {L : List (List Nat)}, L ≠ [] → joinL c L ++ [c] = (L.map fun l => l ++ [c]).flatten
  | [], h => absurd rfl h
  | [l], _ => by simp [joinL]
  | l :: m :: r, _ => by
    have ih := join_ends c (L := m :: r) (by simp)
    rw [joinL_cons (by simp), List.append_assoc, List.cons_append, ih]
    simp
theorem allSome_back {α β : Type} {f : α → Option β} {P : β → Prop} {g : β → α} (h : ∀ a b, f a = some b → P b → g b = a) : ∀ {xs : List α} {bs : List β}, allSome f xs = some bs → (∀ b ∈ bs, P b) → bs.map g = xs
  | [], bs, e, _ => by cases e; rfl
  | a :: r, bs, e, hp => by
    unfold allSome at e
    cases e1 : f a with
    | none => rw [e1] at e; cases e
    | some b =>
      rw [e1] at e
      cases e2 : allSome f r with
      | none => rw [e2] at e; cases e
      | some cs =>
        rw [e2] at e
        cases e
        rw [List.map_cons, h a b e1 (hp b (by simp)), allSome_back h e2 fun x hx => hp x (List.mem_cons_of_mem _ hx)]
theorem allSome_same {α β : Type} {f f2 : α → Option β} {P : β → Prop} (h : ∀ a b, f a = some b → P b → f2 a = some b) : ∀ {xs : List α} {bs : List β}, allSome f xs = some bs → (∀ b ∈ bs, P b) → allSome f2 xs = some bs
  | [], bs, e, _ => e
  | a :: r, bs, e, hp => by
    unfold allSome at e ⊢
    cases e1 : f a with
    | none => rw [e1] at e; cases e
    | some b =>
      rw [e1] at e
      cases e2 : allSome f r with
      | none => rw [e2] at e; cases e
      | some cs =>
        rw [e2] at e
        cases e
        rw [h a b e1 (hp b (by simp)), allSome_same h e2 fun x hx => hp x (List.mem_cons_of_mem _ hx)]
        rfl
theorem last_is {t : List Nat} (h : t.drop (t.length - 1) = [10]) : t = t.dropLast ++ [10] := by
  have h2 := List.take_append_drop (t.length - 1) t
  rw [h] at h2
  rw [List.dropLast_eq_take]
  exact h2.symm
theorem due_read {t : List Nat} {es : List Er} (h : lawDue t = some es) : progRead t = some es := by
  unfold lawDue at h
  by_cases hq : t.drop (t.length - 1) = [10]
  · rw [if_pos hq] at h
    have ht := last_is hq
    cases e1 : allSome lawLine (splitL 10 t.dropLast) with
    | none => rw [e1] at h; cases h
    | some fs =>
      rw [e1] at h
      dsimp only at h
      cases hE : okEsB fs with
      | false => rw [hE] at h; simp at h
      | true =>
        rw [hE, if_pos rfl] at h
        cases h
        have hO := (okEsB_iff es).mp hE
        have hs : splitL 10 t = splitL 10 t.dropLast ++ [[]] := by
          conv => lhs; rw [ht]
          exact splitL_snoc 10 _
        have b1 : es.map textE = splitL 10 t.dropLast := allSome_back (P := OkE) (fun a b ha hb => (line_law ha hb).1) e1 hO.all
        have b2 := allSome_same (f2 := progLine) (P := OkE) (fun a b ha hb => (line_law ha hb).2) e1 hO.all
        have htx : textOf es = t := by
          have := join_ends 10 (splitL_ne 10 t.dropLast)
          rw [joinL_splitL, ← ht, ← b1, List.map_map] at this
          exact this.symm
        unfold progRead
        rw [hs, List.dropLast_concat, if_pos (by simp), b2]
        dsimp only
        rw [if_pos ⟨hE, htx⟩]
  · rw [if_neg hq] at h
    cases h
theorem lawNum_numI {i : Int} (h0 : 0 ≤ i) (h1 : i < 100) : lawNum (numI i) = i := by
  unfold numI
  rw [lawNum_num (by omega)]
  omega
theorem lawPart_partL {p : Int × Option Int} (h : OkP p) : lawPart (partL p) = p := by
  obtain ⟨i, o⟩ := p
  have h1 : 1 ≤ i ∧ i ≤ 20 := h.len
  have hi := lawNum_numI (i := i) (by omega) (by omega)
  have hf : 42 ∉ numI i := numI_free (by omega) (by omega) (by omega)
  unfold lawPart
  cases o with
  | none =>
    show (match cutAt 42 (numI i) with | none => _ | some (a, b) => _) = _
    rw [cutAt_free hf]
    show (lawNum (numI i), none) = _
    rw [hi]
  | some t =>
    have ht := h.tool t rfl
    show (match cutAt 42 (numI i ++ 42 :: numI t) with | none => _ | some (a, b) => _) = _
    rw [cutAt_word _ _ hf]
    show (lawNum (numI i), some (lawNum (numI t))) = _
    rw [hi, lawNum_numI ht.1 (by omega)]
theorem lawLine_textE {e : Er} (h : OkE e) : lawLine (textE e) = some e := by
  have hs : splitL 32 (textE e) = wordsE e := splitL_joinL (wordsE e) (by unfold wordsE; simp) fun w hw z => by
    have := words_sign h w hw 32 z
    omega
  have k1 := h.every
  have k2 := h.late
  have k3 := h.due
  have k4 := h.parts
  unfold lawLine
  rw [hs]
  unfold wordsE
  cases hp : e.parts with
  | nil => rw [hp] at k4; simp at k4
  | cons p r =>
    rw [List.map_cons]
    dsimp only
    have hall : ∀ q ∈ p :: r, lawPart (partL q) = q := fun q hq => lawPart_partL (h.part q (by rw [hp]; exact hq))
    rw [lawNum_numI (i := e.every) (by omega) (by omega), lawNum_numI (i := e.due) (by omega) (by omega), lawNum_numI (i := e.late) (by omega) (by omega), ← List.map_cons, List.map_map]
    have : (p :: r).map (lawPart ∘ partL) = p :: r := by
      conv => rhs; rw [← List.map_id (p :: r)]
      exact List.map_congr_left hall
    rw [this, ← hp]
theorem due_text {es : List Er} (h : OkEs es) : lawDue (textOf es) = some es := by
  have hne : es.map textE ≠ [] := by
    intro z
    have := h.len.1
    rw [List.map_eq_nil_iff] at z
    rw [z] at this
    simp at this
  have ht : textOf es = joinL 10 (es.map textE) ++ [10] := by
    rw [join_ends 10 hne, List.map_map]
    rfl
  have hs : splitL 10 (joinL 10 (es.map textE)) = es.map textE := splitL_joinL _ hne fun w hw z => by
    obtain ⟨e, he, rfl⟩ := List.mem_map.mp hw
    have := textE_sign (h.all e he) 10 z
    omega
  have ha : allSome lawLine (es.map textE) = some es := by
    rw [allSome_map (f := lawLine) (g := fun l => (lawLine l).getD default) (xs := es.map textE) fun l hl => by
      obtain ⟨e, he, rfl⟩ := List.mem_map.mp hl
      rw [lawLine_textE (h.all e he)]
      rfl, List.map_map]
    congr 1
    conv => rhs; rw [← List.map_id es]
    exact List.map_congr_left fun e he => by
      show (lawLine (textE e)).getD default = e
      rw [lawLine_textE (h.all e he)]
      rfl
  unfold lawDue
  rw [ht, if_pos (by simp), List.dropLast_concat, hs, ha]
  dsimp only
  rw [if_pos ((okEsB_iff es).mpr h)]
theorem read_due {t : List Nat} {es : List Er} (h : progRead t = some es) : lawDue t = some es := by
  unfold progRead at h
  split at h
  · split at h
    · split at h
      · rename_i fs _ hc
        cases h
        rw [← hc.2]
        exact due_text ((okEsB_iff es).mp hc.1)
      · cases h
    · cases h
  · cases h
theorem both_one (t : List Nat) : progRead t = lawDue t := by
  cases h : lawDue t with
  | some es => exact due_read h
  | none =>
    cases h2 : progRead t with
    | none => rfl
    | some es =>
      rw [read_due h2] at h
      cases h
end L2.DL
set_option maxHeartbeats 1000000
namespace L2.DL
open PySem PySem.Spec PyProof.Rows PySem.NumText

/-! ### spoilt texts -/
theorem pick24 {xs : List PyData} {m : Int} (hm : (xs.length : Int) = m) (h : 0 < m) (c : Int) : ∃ b, atI xs (c % m) = some b ∧ b ∈ xs := by
  have h0 := Int.emod_nonneg c (show m ≠ 0 by omega)
  have h1 := Int.emod_lt_of_pos c h
  obtain ⟨n, hn⟩ := Int.eq_ofNat_of_zero_le h0
  have hl : n < xs.length := by omega
  refine ⟨xs[n], ?_, List.getElem_mem hl⟩
  rw [hn]
  exact atI_nat (List.getElem?_eq_getElem hl)
def FineT (d : PyData) : Prop := ∃ u, d = .str (sx u) ∧ okL u ∧ u.length ≤ 10000
def FineD (d : PyData) : Prop := FineT d ∨ isaStr d = some (.bool false)
def fineB (z : Str) : Bool := z.cps.toList.all (fun c => decide (c < 1114112)) && decide (z.cps.toList.length ≤ 10000)
theorem fine_of {z : Str} (h : fineB z = true) : FineT (.str z) := by
  unfold fineB at h
  rw [Bool.and_eq_true, List.all_eq_true] at h
  exact ⟨z.cps.toList, by rw [sx_of], fun c hc => of_decide_eq_true (h.1 c hc), of_decide_eq_true h.2⟩
theorem okL_app {a b : List Nat} (ha : okL a) (hb : okL b) : okL (a ++ b) := fun c hc => (List.mem_append.mp hc).elim (ha c) (hb c)
theorem okL_take {a : List Nat} (n : Nat) (ha : okL a) : okL (a.take n) := fun c hc => ha c (List.mem_of_mem_take hc)
theorem okL_drop {a : List Nat} (n : Nat) (ha : okL a) : okL (a.drop n) := fun c hc => ha c (List.mem_of_mem_drop hc)
theorem okL_one {c : Nat} (h : c < 1114112) : okL [c] := fun d hd => by simp at hd; omega
def signL : List Nat := [32, 42, 10, 48, 49, 50, 51, 52, 53, 54, 55, 56, 57, 45, 43, 46, 97, 78, 32, 49, 42, 48]
theorem sign_text : (Str.ofString " *\n0123456789-+.aN 1*0") = sx signL := by decide +kernel
theorem sign_ok (c : Int) : ∃ s, s < 1114112 ∧ oIxS (.str (sx signL)) (.int (c % 22)) = some (.str (sx [s])) := by
  have h0 := Int.emod_nonneg c (show (22 : Int) ≠ 0 by omega)
  have h1 := Int.emod_lt_of_pos c (show (0 : Int) < 22 by omega)
  obtain ⟨n, hn⟩ := Int.eq_ofNat_of_zero_le h0
  rw [hn]
  have hl : n < signL.length := by show n < 22; omega
  have hall : ∀ s ∈ signL, s < 1114112 := by decide
  refine ⟨signL[n], hall _ (List.getElem_mem hl), ?_⟩
  have : atI signL (Int.ofNat n) = some signL[n] := atI_nat (List.getElem?_eq_getElem hl)
  show (if (sx signL).length ≤ 16777216 then (atI (sx signL).cps.toList (Int.ofNat n)).map fun c => PyData.str ⟨#[c]⟩ else none) = _
  rw [sx_len, if_pos (by show 22 ≤ 16777216; omega), sx_list, this]
  rfl
theorem spoilt_text_ok {t : List Nat} {more : List PyData} {c : Int} (ht : okL t) (hl : t.length ≤ 300) (h0 : 0 ≤ c) (hm : ∀ d ∈ more, FineD d) (hml : more.length ≤ 100) :
    ∃ d, m__law_spoilt_text [.str (sx t), .int c, .list more] = .ok d ∧ FineD d := by
  have hlen := oLen_sx (l := t) (by omega)
  have hk0 := Int.emod_nonneg c (show ((t.length : Int) + 1) ≠ 0 by omega)
  have hk1 := Int.emod_lt_of_pos c (show 0 < ((t.length : Int) + 1) by omega)
  obtain ⟨k, hk⟩ := Int.eq_ofNat_of_zero_le hk0
  have hkl : k ≤ t.length := by omega
  have hk : c % ((t.length : Int) + 1) = (k : Int) := hk
  obtain ⟨s, hs1, hs2⟩ := sign_ok (c / 1000)
  have hw0 := Int.emod_nonneg (c / 40000) (show (6 : Int) ≠ 0 by omega)
  have hw1 := Int.emod_lt_of_pos (c / 40000) (show (0 : Int) < 6 by omega)
  have a1 : oSliceS (.str (sx t)) none (some (k : Int)) = some (.str (sx (t.take k))) := by rw [oSliceS_sx (by omega), cut_to_sx hkl]
  have a2 : oSliceS (.str (sx t)) (some (k : Int)) none = some (.str (sx (t.drop k))) := by rw [oSliceS_sx (by omega), cut_from_sx]
  have a3 : oSliceS (.str (sx t)) (some ((k : Int) + 1)) none = some (.str (sx (t.drop (k + 1)))) := by
    rw [oSliceS_sx (by omega), show (k : Int) + 1 = ((k + 1 : Nat) : Int) by omega, cut_from_sx]
  have ok1 := okL_take k ht
  have ok2 := okL_drop k ht
  have ok3 := okL_drop (k + 1) ht
  have okS := okL_one hs1
  have l1 : (t.take k).length ≤ 300 := by simp; omega
  have l2 : (t.drop k).length ≤ 300 := by simp; omega
  have l3 : (t.drop (k + 1)).length ≤ 300 := by simp; omega
  by_cases w0 : c / 40000 % 6 = 0
  · have c1 := oCatS_sx (a := t.take k) (b := [s]) (by simp; omega)
    have c2 := oCatS_sx (a := t.take k ++ [s]) (b := t.drop k) (by simp; omega)
    refine ⟨.str (sx (t.take k ++ [s] ++ t.drop k)), ?_, .inl ⟨_, rfl, okL_app (okL_app ok1 okS) ok2, by simp; omega⟩⟩
    simp only [m__law_spoilt_text, runD_ap]
    simp only [sign_text]
    simp [-List.append_assoc, hlen, show (0 : Int) < (t.length : Int) + 1 by omega, hk, hs2, w0, a1, a2, c1, c2]
  · by_cases w1 : c / 40000 % 6 = 1
    · have c1 := oCatS_sx (a := t.take k) (b := t.drop (k + 1)) (by omega)
      refine ⟨.str (sx (t.take k ++ t.drop (k + 1))), ?_, .inl ⟨_, rfl, okL_app ok1 ok3, by rw [List.length_append]; omega⟩⟩
      simp only [m__law_spoilt_text, runD_ap]
      simp only [sign_text]
      simp [-List.append_assoc, hlen, show (0 : Int) < (t.length : Int) + 1 by omega, hk, hs2, w1, a1, a3, c1]
    · by_cases w2 : c / 40000 % 6 = 2
      · have c1 := oCatS_sx (a := t.take k) (b := [s]) (by simp; omega)
        have c2 := oCatS_sx (a := t.take k ++ [s]) (b := t.drop (k + 1)) (by simp; omega)
        refine ⟨.str (sx (t.take k ++ [s] ++ t.drop (k + 1))), ?_, .inl ⟨_, rfl, okL_app (okL_app ok1 okS) ok3, by simp; omega⟩⟩
        simp only [m__law_spoilt_text, runD_ap]
        simp only [sign_text]
        simp [-List.append_assoc, hlen, show (0 : Int) < (t.length : Int) + 1 by omega, hk, hs2, w2, a1, a3, c1, c2]
      · by_cases w3 : c / 40000 % 6 = 3
        · obtain ⟨j, hj⟩ := Int.eq_ofNat_of_zero_le (Int.emod_nonneg (c / 7) (show (9 : Int) ≠ 0 by omega))
          have hj : c / 7 % 9 = (j : Int) := hj
          have a4 : oSliceS (.str (sx t)) (some ((k : Int) + (j : Int))) none = some (.str (sx (t.drop (k + j)))) := by
            rw [oSliceS_sx (by omega), show (k : Int) + (j : Int) = ((k + j : Nat) : Int) by omega, cut_from_sx]
          have l4 : (t.drop (k + j)).length ≤ 300 := by simp; omega
          have c1 := oCatS_sx (a := t.take k) (b := t.drop (k + j)) (by omega)
          refine ⟨.str (sx (t.take k ++ t.drop (k + j))), ?_, .inl ⟨_, rfl, okL_app ok1 (okL_drop _ ht), by rw [List.length_append]; omega⟩⟩
          simp only [m__law_spoilt_text, runD_ap]
          simp only [sign_text]
          simp [-List.append_assoc, hlen, show (0 : Int) < (t.length : Int) + 1 by omega, hk, hs2, w3, a1, hj, a4, c1]
        · by_cases w4 : c / 40000 % 6 = 4
          · have c1 := oCatS_sx (a := t) (b := t) (by omega)
            have c2 := oCatS_sx (a := t.drop k) (b := t.take k) (by omega)
            have c3 := oCatS_sx (a := [32]) (b := t) (by simp; omega)
            have c4 := oCatS_sx (a := t) (b := [32]) (by simp; omega)
            obtain ⟨d, hd, hmem⟩ := pick24 (xs := [.str (sx (t ++ t)), .str (sx (t.drop k ++ t.take k)), .str (sx ([32] ++ t)), .str (sx (t ++ [32]))]) (m := 4) rfl (by omega) c
            have okB := okL_one (c := 32) (by omega)
            refine ⟨d, ?_, ?_⟩
            · simp only [m__law_spoilt_text, runD_ap]
              simp only [sign_text, blank_text]
              generalize (t.drop k ++ t.take k) = T1 at *
              generalize ([32] ++ t) = T2 at *
              simp [-List.append_assoc, hlen, show (0 : Int) < (t.length : Int) + 1 by omega, hk, hs2, w4, a1, a2, c1, c2, c3, c4, hd]
            · simp only [List.mem_cons, List.not_mem_nil, or_false] at hmem
              rcases hmem with h | h | h | h
              · exact .inl ⟨_, h, okL_app ht ht, by rw [List.length_append]; omega⟩
              · exact .inl ⟨_, h, okL_app ok2 ok1, by rw [List.length_append]; omega⟩
              · exact .inl ⟨_, h, okL_app okB ht, by simp; omega⟩
              · exact .inl ⟨_, h, okL_app ht okB, by simp; omega⟩
          · obtain ⟨d, hd, hmem⟩ := pick24 (xs := more ++ [.none, .int 5, .list [.str (sx t)], .str (sx [])]) (m := (more.length : Int) + 4) (by simp) (by omega) c
            refine ⟨d, ?_, ?_⟩
            · simp only [m__law_spoilt_text, runD_ap]
              simp only [sign_text, none_text]
              simp [-List.append_assoc, hlen, show (0 : Int) < (t.length : Int) + 1 by omega, hk, hs2, w0, w1, w2, w3, w4, show (0 : Int) < (more.length : Int) + 4 by omega, show more.length + 4 ≤ 16777216 by omega, hd]
            · rcases List.mem_append.mp hmem with h | h
              · exact hm d h
              · simp only [List.mem_cons, List.not_mem_nil, or_false] at h
                rcases h with h | h | h | h
                · subst h; exact .inr rfl
                · subst h; exact .inr rfl
                · subst h; exact .inr rfl
                · exact .inl ⟨[], h, fun c hc => by simp at hc, by simp⟩
theorem layE24 (e : Er) : Lay 3 (encE e) := Lay.tuple fun d hd => by
  simp at hd
  rcases hd with h | h | h | h
  · rw [h]; exact Lay.int 2 _
  · rw [h]; exact Lay.int 2 _
  · rw [h]; exact Lay.int 2 _
  · rw [h]
    exact Lay.tuple fun d hd => by
      obtain ⟨p, _, rfl⟩ := List.mem_map.mp hd
      exact Lay.tuple fun d hd => by
        simp at hd
        rcases hd with h | h
        · rw [h]; exact Lay.int 0 _
        · rw [h]; exact lay_encO 0 _
theorem layEs24 (es : List Er) : Lay 4 (encEs es) := Lay.tuple fun d hd => by
  obtain ⟨e, _, rfl⟩ := List.mem_map.mp hd
  exact layE24 e
def sevenS : Str := ⟨(List.replicate 7 (Str.ofString "2 1 0 1\n").cps).foldl (· ++ ·) #[]⟩
theorem seven_ok : oRepS (.str "2 1 0 1\n") (.int 7) = some (.str sevenS) := by
  unfold oRepS
  dsimp only
  rw [if_pos (by decide +kernel)]
  rfl
theorem law24_true (ns : List Int) : m_law_k24 [encS ns] = .ok (.bool true) := by
  obtain ⟨es, hl, hes, he⟩ := law_errands_ok ns (a := 2) (most := 4) (top := 28) (by omega) (by omega) (by omega) (by omega)
  have hok : OkEs es := ⟨by omega, fun e h => (hes e h).ok (by omega)⟩
  have hto := textOf_ok hok
  have htl := textOf_len hok
  have hsh := shown_ok hok
  have hlt := law_text_ok hok
  have hn1 := oNe_sx hto hto
  rw [decide_eq_true rfl] at hn1
  have hrd := read_ok hto (by omega)
  rw [both_one, due_text hok] at hrd
  dsimp only at hrd
  have hn2 := oNe_self (layEs24 es)
  have hstr : isaStr (.str (sx (textOf es))) = some (.bool true) := rfl
  have m0 := mixed_ok ns (k := 0) (many := 10000000) (by omega) (by omega)
  have v0 := mix_nonneg ns 0 (show 0 < 10000000 by omega)
  have hp : oPow (.int 10) (.int 7) = some (.int 10000000) := rfl
  obtain ⟨d, hd, hfine⟩ := spoilt_text_ok (t := textOf es) (more := [.str "2 1 0 1*0\n", .str "2 1 0 1*0*1 1\n", .str "02 1 0 1\n", .str "2 1 0\n", .str sevenS, .str "61 1 0 1\n", .str "2 1 0 1"]) (c := mix ns 0 10000000) hto htl v0 (fun d hd => by
    simp only [List.mem_cons, List.not_mem_nil, or_false] at hd
    rcases hd with h | h | h | h | h | h | h <;> subst h <;> exact .inl (fine_of (by decide +kernel))) (by decide)
  generalize mix ns 0 10000000 = c at *
  have hans : ∃ w, (m_read [d] = .ok w ∧ m__law_due [d] = .ok w ∧ oEq w w = some (.bool true)) ∨ (m_read [d] = .err "NoText" ∧ m__law_due [d] = .ok .none) := by
    rcases hfine with ⟨u, hu, hu1, hu2⟩ | h
    · subst hu
      have h1 := read_ok hu1 hu2
      have h2 := due_ok hu1 hu2
      rw [both_one] at h1
      cases e : lawDue u with
      | some fs =>
        rw [e] at h1 h2
        exact ⟨_, .inl ⟨h1, h2, oEq_self (layEs24 fs)⟩⟩
      | none =>
        rw [e] at h1 h2
        exact ⟨.none, .inr ⟨h1, h2⟩⟩
    · exact ⟨.none, .inr ⟨read_no h, due_no h⟩⟩
  have he0 : oEq .none .none = some (.bool true) := oEq_self (Lay.non 1)
  have hseven := seven_ok
  generalize (sx (textOf es)) = T at *
  generalize sevenS = S7 at *
  rcases hans with ⟨w, ⟨h1, h2, h3⟩ | ⟨h1, h2⟩⟩
  · simp only [m_law_k24, runD_ap]
    simp [he, hsh, hstr, hlt, hn1, hrd, hn2, hp, m0, hseven, hd, tryNxS, h1, h2, h3]
  · simp only [m_law_k24, runD_ap]
    simp [he, hsh, hstr, hlt, hn1, hrd, hn2, hp, m0, hseven, hd, tryNxS, h1, h2, he0]
end L2.DL
namespace L2.DL
open PySem
theorem hlaw_k24 : ∀ ns : List Int, ns.length ≤ 63 → m_law_k24 [.list (ns.map .int)] = .ok (.bool true) := fun ns _ => law24_true ns
end L2.DL
set_option maxHeartbeats 4000000
namespace L2.DL.Wk_k24_texts
open PySem PySem.Spec PyProof.Rows
def topS (i : Nat) : Stmt := PySem.Challenge.pw_ranksure_k24_texts.main.body.getD i (.Pass ⟨0, 0, 0, 0⟩)
structure Bts (mg : Str → Option Value) : Prop where
  ValueError : mg "ValueError" = none
  all : mg "all" = none
  bool : mg "bool" = none
  int : mg "int" = none
  isinstance : mg "isinstance" = none
  len : mg "len" = none
  min : mg "min" = none
  range : mg "range" = none
  str : mg "str" = none
  tuple : mg "tuple" = none
section
variable {P : Program} {w : World} {K : PySem.W.Frag} {mg : Str → Option Value} {base : Heap}
abbrev s__law_cell_at : Stmt := topS 21
abbrev N__law_cell_at : List Str := ["_law_script", "_law_k"]
theorem sc__law_cell_at : FnScope N__law_cell_at ["_law_script", "_law_k"] (defScope s__law_cell_at) := ⟨rfl, rfl, rfl, by decide +kernel, rfl, by decide +kernel, by decide +kernel⟩
theorem df__law_cell_at (B : Bts mg) {f : Addr} {fd : FuncData} (F : Fun K "_law_cell_at" "_law_cell_at" s__law_cell_at f fd) (hm : mg "_law_cell_at" = some (.ref f)) : Df P w K mg base "_law_cell_at" 1 2 m__law_cell_at :=
  Df.mk' (M' := []) F hm (F.binds (ps := ["_law_script", "_law_k"]) fun _ _ _ _ _ _ us hl => match us, hl with | [_, _], _ => rfl) sc__law_cell_at rfl rfl fun cdv A outer s0 H E hr tk hp =>
    (s_cons (s_if (t_lt (dv 1) (d_len B.len (dv 0))) (s_one (s_ret (d_ix (dv 0) (dv 1)))) s_nil) (s_cons (s_if (t_eq (hu65 hr) (dv 0) (d_lst a_nil)) (s_one (s_ret d_int)) s_nil) (s_one (s_ret (d_add (d_mul (d_ix (dv 0) (d_mod (dv 1) (d_len B.len (dv 0)))) d_int) (dv 1))))))
abbrev s__law_mixed : Stmt := topS 22
abbrev N__law_mixed : List Str := ["_law_script", "_law_k", "_law_many", "_law_drawn"]
theorem sc__law_mixed : FnScope N__law_mixed ["_law_script", "_law_k", "_law_many"] (defScope s__law_mixed) := ⟨rfl, rfl, rfl, by decide +kernel, rfl, by decide +kernel, by decide +kernel⟩
theorem df__law_mixed (B : Bts mg) (F__law_cell_at : Df P w K mg base "_law_cell_at" 1 2 m__law_cell_at) {f : Addr} {fd : FuncData} (F : Fun K "_law_mixed" "_law_mixed" s__law_mixed f fd) (hm : mg "_law_mixed" = some (.ref f)) : Df P w K mg base "_law_mixed" 2 3 m__law_mixed :=
  Df.mk' (M' := []) F hm (F.binds (ps := ["_law_script", "_law_k", "_law_many"]) fun _ _ _ _ _ _ us hl => match us, hl with | [_, _, _], _ => rfl) sc__law_mixed rfl rfl fun cdv A outer s0 H E hr tk hp =>
    (s_cons (s_set 3 sc__law_mixed.nd (se_no (d_mod (d_mul (d_add (d_add (d_call (F__law_cell_at.mono (by decide)) hr tk (a_cons (dv 0) (a_cons (dv 1) a_nil))) (d_mul d_int (dv 1))) d_int) d_int) d_int))) (s_one (s_ret (d_mod (d_mod (d_add (d_add (d_mul (dv 3) (dv 3)) (d_mul d_int (dv 3))) (dv 1)) d_int) (dv 2)))))
abbrev s__law_errand : Stmt := topS 23
abbrev N__law_errand : List Str := ["_law_script", "_law_at", "_law_top", "_law_tools", "_law_every", "_law_late", "_law_due_here", "_law_parts", "_law_k", "_law_cell"]
theorem sc__law_errand : FnScope N__law_errand ["_law_script", "_law_at", "_law_top", "_law_tools"] (defScope s__law_errand) := ⟨rfl, rfl, rfl, by decide +kernel, rfl, by decide +kernel, by decide +kernel⟩
theorem df__law_errand (B : Bts mg) (F__law_mixed : Df P w K mg base "_law_mixed" 2 3 m__law_mixed) {f : Addr} {fd : FuncData} (F : Fun K "_law_errand" "_law_errand" s__law_errand f fd) (hm : mg "_law_errand" = some (.ref f)) : Df P w K mg base "_law_errand" 3 4 m__law_errand :=
  Df.mk' (M' := []) F hm (F.binds (ps := ["_law_script", "_law_at", "_law_top", "_law_tools"]) fun _ _ _ _ _ _ us hl => match us, hl with | [_, _, _, _], _ => rfl) sc__law_errand rfl rfl fun cdv A outer s0 H E hr tk hp =>
    (s_cons (s_set 4 sc__law_errand.nd (se_no (d_add d_int (d_call (F__law_mixed.mono (by decide)) hr tk (a_cons (dv 0) (a_cons (dv 1) (a_cons (dv 2) a_nil))))))) (s_cons (s_set 5 sc__law_errand.nd (se_no (d_mul (d_call (F__law_mixed.mono (by decide)) hr tk (a_cons (dv 0) (a_cons (d_add (dv 1) d_int) (a_cons d_int a_nil)))) (d_intc B.int (d_eq (hu65 hr) (d_call (F__law_mixed.mono (by decide)) hr tk (a_cons (dv 0) (a_cons (d_add (dv 1) d_int) (a_cons d_int a_nil)))) d_int))))) (s_cons (s_set 5 sc__law_errand.nd (se_no (d_min2 rfl B.min (dv 5) (d_sub (dv 4) d_int)))) (s_cons (s_set 6 sc__law_errand.nd (se_no (d_sub (dv 4) (dv 5)))) (s_cons (s_if (t_eq (hu65 hr) (d_call (F__law_mixed.mono (by decide)) hr tk (a_cons (dv 0) (a_cons (d_add (dv 1) d_int) (a_cons d_int a_nil)))) d_int) (s_one (s_set 6 sc__law_errand.nd (se_no (d_sub (dv 6) (d_call (F__law_mixed.mono (by decide)) hr tk (a_cons (dv 0) (a_cons (d_add (dv 1) d_int) (a_cons (dv 6) a_nil)))))))) s_nil) (s_cons (s_new 7 sc__law_errand.nd (n_lst a_nil)) (s_cons (s_for hp rfl (i_range1 B.range (d_call (F__law_mixed.mono (by decide)) hr tk (a_cons (dv 0) (a_cons (d_add (dv 1) d_int) (a_cons d_int a_nil))))) (g_one 8 sc__law_errand.nd) (s_cons (s_set 9 sc__law_errand.nd (se_fr (d_call (F__law_mixed.mono (by decide)) hr tk (a_cons (dv 0) (a_cons (d_add (d_add (dv 1) d_int) (dv 8)) (a_cons d_int a_nil)))))) (s_cons (s_app 7 (se_fr (d_tup (a_cons (d_add d_int (d_mod (dv 9) d_int)) (a_cons (d_ix (d_lst (a_cons d_int (a_cons d_int (a_cons d_int (a_cons d_int (a_cons d_non a_nil)))))) (d_mod (d_div (dv 9) d_int) d_int)) a_nil))))) (s_one (s_if (dt_not (dt_val (dv 3))) (s_one (s_put 7 (se_sc (d_tup (a_cons (d_ix (d_ix (dv 7) (d_neg d_int)) d_int) (a_cons d_non a_nil)))) (d_neg d_int))) s_nil))))) (s_one (s_ret (d_tup (a_cons (dv 4) (a_cons (dv 6) (a_cons (dv 5) (a_cons (d_tupc B.tuple (d_catL (dv 7) (d_lst (a_cons (d_tup (a_cons (d_add d_int (d_call (F__law_mixed.mono (by decide)) hr tk (a_cons (dv 0) (a_cons (d_add (dv 1) d_int) (a_cons d_int a_nil))))) (a_cons d_non a_nil))) a_nil)))) a_nil))))))))))))))
abbrev s__law_errands : Stmt := topS 24
abbrev N__law_errands : List Str := ["_law_script", "_law_at", "_law_most", "_law_top", "_law_tools", "_law_many", "_law_k"]
theorem sc__law_errands : FnScope N__law_errands ["_law_script", "_law_at", "_law_most", "_law_top", "_law_tools"] (defScope s__law_errands) := ⟨rfl, rfl, rfl, by decide +kernel, rfl, by decide +kernel, by decide +kernel⟩
theorem df__law_errands (B : Bts mg) (F__law_mixed : Df P w K mg base "_law_mixed" 2 3 m__law_mixed) (F__law_errand : Df P w K mg base "_law_errand" 3 4 m__law_errand) {f : Addr} {fd : FuncData} (F : Fun K "_law_errands" "_law_errands" s__law_errands f fd) (hm : mg "_law_errands" = some (.ref f)) : Df P w K mg base "_law_errands" 4 5 m__law_errands :=
  Df.mk' (M' := []) F hm (F.binds (ps := ["_law_script", "_law_at", "_law_most", "_law_top", "_law_tools"]) fun _ _ _ _ _ _ us hl => match us, hl with | [_, _, _, _, _], _ => rfl) sc__law_errands rfl rfl fun cdv A outer s0 H E hr tk hp =>
    (s_cons (s_set 5 sc__law_errands.nd (se_no (d_add d_int (d_call (F__law_mixed.mono (by decide)) hr tk (a_cons (dv 0) (a_cons (dv 1) (a_cons (dv 2) a_nil))))))) (s_one (s_ret (d_tupc B.tuple (d_comp rfl sc__law_errands.nd (i_range1 B.range (dv 5)) (blkOk_by (own := [("_law_k", 6)]) (N := N__law_errands) (sc := (defScope s__law_errands)) (by decide +kernel)) rfl (fun _ _ _ _ _ => (g_one 6 sc__law_errands.nd)) (fun _ _ _ _ _ => ts_nil) (fun _ _ _ _ _ => (d_call (F__law_errand.mono (by decide)) hr takes0 (a_cons (dv 0) (a_cons (d_add (d_add (dv 1) d_int) (d_mul d_int (dv 6))) (a_cons (dv 3) (a_cons (dv 4) a_nil)))))))))))
abbrev s_part_text : Stmt := topS 13
abbrev N_part_text : List Str := ["part"]
theorem sc_part_text : FnScope N_part_text ["part"] (defScope s_part_text) := ⟨rfl, rfl, rfl, by decide +kernel, rfl, by decide +kernel, by decide +kernel⟩
theorem df_part_text (B : Bts mg) {f : Addr} {fd : FuncData} (F : Fun K "part_text" "part_text" s_part_text f fd) (hm : mg "part_text" = some (.ref f)) : Df P w K mg base "part_text" 1 1 m_part_text :=
  Df.mk' (M' := []) F hm (F.binds (ps := ["part"]) fun _ _ _ _ _ _ us hl => match us, hl with | [_], _ => rfl) sc_part_text rfl rfl fun cdv A outer s0 H E hr tk hp =>
    (s_cons (s_if (t_is (d_ix (dv 0) d_int) d_non) (s_one (s_ret (d_strN B.str (d_ix (dv 0) d_int)))) s_nil) (s_one (s_ret (d_catS (d_catS (d_strN B.str (d_ix (dv 0) d_int)) d_str) (d_strN B.str (d_ix (dv 0) d_int))))))
abbrev s_text_of : Stmt := topS 14
abbrev N_text_of : List Str := ["errands", "lines", "every", "due", "late", "parts", "line", "part"]
theorem sc_text_of : FnScope N_text_of ["errands"] (defScope s_text_of) := ⟨rfl, rfl, rfl, by decide +kernel, rfl, by decide +kernel, by decide +kernel⟩
theorem df_text_of (B : Bts mg) (F_part_text : Df P w K mg base "part_text" 1 1 m_part_text) {f : Addr} {fd : FuncData} (F : Fun K "text_of" "text_of" s_text_of f fd) (hm : mg "text_of" = some (.ref f)) : Df P w K mg base "text_of" 2 1 m_text_of :=
  Df.mk' (M' := []) F hm (F.binds (ps := ["errands"]) fun _ _ _ _ _ _ us hl => match us, hl with | [_], _ => rfl) sc_text_of rfl rfl fun cdv A outer s0 H E hr tk hp =>
    (s_cons (s_new 1 sc_text_of.nd (n_lst a_nil)) (s_cons (s_for hp rfl (i_sq (dv 0)) (g_tup rfl (gs_cons 2 sc_text_of.nd (gs_cons 3 sc_text_of.nd (gs_cons 4 sc_text_of.nd (gs_cons 5 sc_text_of.nd gs_nil))))) (s_one (s_app 1 (se_fr (d_join d_str (d_catL (d_lst (a_cons (d_strN B.str (dv 2)) (a_cons (d_strN B.str (dv 3)) (a_cons (d_strN B.str (dv 4)) a_nil)))) (d_comp rfl sc_text_of.nd (i_sq (dv 5)) (blkOk_by (own := [("part", 7)]) (N := N_text_of) (sc := (defScope s_text_of)) (by decide +kernel)) rfl (fun _ _ _ _ _ => (g_one 7 sc_text_of.nd)) (fun _ _ _ _ _ => ts_nil) (fun _ _ _ _ _ => (d_call (F_part_text.mono (by decide)) hr takes0 (a_cons (dv 7) a_nil)))))))))) (s_one (s_ret (d_join d_str (d_comp rfl sc_text_of.nd (i_sq (dv 1)) (blkOk_by (own := [("line", 6)]) (N := N_text_of) (sc := (defScope s_text_of)) (by decide +kernel)) rfl (fun _ _ _ _ _ => (g_one 6 sc_text_of.nd)) (fun _ _ _ _ _ => ts_nil) (fun _ _ _ _ _ => (d_catS (dv 6) d_str))))))))
abbrev s_is_whole : Stmt := topS 6
abbrev N_is_whole : List Str := ["thing"]
theorem sc_is_whole : FnScope N_is_whole ["thing"] (defScope s_is_whole) := ⟨rfl, rfl, rfl, by decide +kernel, rfl, by decide +kernel, by decide +kernel⟩
theorem df_is_whole (B : Bts mg) {f : Addr} {fd : FuncData} (F : Fun K "is_whole" "is_whole" s_is_whole f fd) (hm : mg "is_whole" = some (.ref f)) : Df P w K mg base "is_whole" 1 1 m_is_whole :=
  Df.mk' (M' := []) F hm (F.binds (ps := ["thing"]) fun _ _ _ _ _ _ us hl => match us, hl with | [_], _ => rfl) sc_is_whole rfl rfl fun cdv A outer s0 H E hr tk hp =>
    (s_one (s_ret (d_and (d_isInt B.isinstance B.int (dv 0)) (d_one (d_not (d_isBool B.isinstance B.bool (dv 0)))))))
abbrev s_between : Stmt := topS 7
abbrev N_between : List Str := ["thing", "low", "most"]
theorem sc_between : FnScope N_between ["thing", "low", "most"] (defScope s_between) := ⟨rfl, rfl, rfl, by decide +kernel, rfl, by decide +kernel, by decide +kernel⟩
theorem df_between (B : Bts mg) (F_is_whole : Df P w K mg base "is_whole" 1 1 m_is_whole) {f : Addr} {fd : FuncData} (F : Fun K "between" "between" s_between f fd) (hm : mg "between" = some (.ref f)) : Df P w K mg base "between" 2 3 m_between :=
  Df.mk' (M' := []) F hm (F.binds (ps := ["thing", "low", "most"]) fun _ _ _ _ _ _ us hl => match us, hl with | [_, _, _], _ => rfl) sc_between rfl rfl fun cdv A outer s0 H E hr tk hp =>
    (s_one (s_ret (d_and (d_call (F_is_whole.mono (by decide)) hr tk (a_cons (dv 0) a_nil)) (d_one (d_chain op_le o2_le op_le o2_le (dv 1) (dv 0) (dv 2))))))
abbrev s_is_part : Stmt := topS 8
abbrev N_is_part : List Str := ["thing"]
theorem sc_is_part : FnScope N_is_part ["thing"] (defScope s_is_part) := ⟨rfl, rfl, rfl, by decide +kernel, rfl, by decide +kernel, by decide +kernel⟩
theorem df_is_part (B : Bts mg) (F_between : Df P w K mg base "between" 2 3 m_between) {t_TOOLS : Tok} (c_TOOLS : mg "TOOLS" = some (.int 4 t_TOOLS)) {f : Addr} {fd : FuncData} (F : Fun K "is_part" "is_part" s_is_part f fd) (hm : mg "is_part" = some (.ref f)) : Df P w K mg base "is_part" 3 1 m_is_part :=
  Df.mk' (M' := []) F hm (F.binds (ps := ["thing"]) fun _ _ _ _ _ _ us hl => match us, hl with | [_], _ => rfl) sc_is_part rfl rfl fun cdv A outer s0 H E hr tk hp =>
    (s_cons (s_if (dwt (dw_or (dt_not (dt_val (d_isTuple B.isinstance B.tuple (dv 0)))) (dw_or (t_ne (hu65 hr) (d_len B.len (dv 0)) d_int) (dw_or1 (dt_not (dt_val (d_call (F_between.mono (by decide)) hr tk (a_cons (d_ix (dv 0) d_int) (a_cons d_int (a_cons d_int a_nil)))))))))) (s_one (s_ret d_bl)) s_nil) (s_one (s_ret (d_or (d_is (d_ix (dv 0) d_int) d_non) (d_one (d_call (F_between.mono (by decide)) hr tk (a_cons (d_ix (dv 0) d_int) (a_cons d_int (a_cons (d_sub (d_glob c_TOOLS) d_int) a_nil)))))))))
abbrev s_is_errand : Stmt := topS 9
abbrev N_is_errand : List Str := ["thing", "part"]
theorem sc_is_errand : FnScope N_is_errand ["thing"] (defScope s_is_errand) := ⟨rfl, rfl, rfl, by decide +kernel, rfl, by decide +kernel, by decide +kernel⟩
theorem df_is_errand (B : Bts mg) (F_between : Df P w K mg base "between" 2 3 m_between) (F_is_part : Df P w K mg base "is_part" 3 1 m_is_part) {f : Addr} {fd : FuncData} (F : Fun K "is_errand" "is_errand" s_is_errand f fd) (hm : mg "is_errand" = some (.ref f)) : Df P w K mg base "is_errand" 4 1 m_is_errand :=
  Df.mk' (M' := []) F hm (F.binds (ps := ["thing"]) fun _ _ _ _ _ _ us hl => match us, hl with | [_], _ => rfl) sc_is_errand rfl rfl fun cdv A outer s0 H E hr tk hp =>
    (s_cons (s_if (dwt (dw_or (dt_not (dt_val (d_isTuple B.isinstance B.tuple (dv 0)))) (dw_or (t_ne (hu65 hr) (d_len B.len (dv 0)) d_int) (dw_or1 (dt_not (dt_val (d_call (F_between.mono (by decide)) hr tk (a_cons (d_ix (dv 0) d_int) (a_cons d_int (a_cons d_int a_nil)))))))))) (s_one (s_ret d_bl)) s_nil) (s_cons (s_if (dwt (dw_or (dt_not (dt_val (d_call (F_between.mono (by decide)) hr tk (a_cons (d_ix (dv 0) d_int) (a_cons d_int (a_cons (d_min2 rfl B.min d_int (d_sub (d_ix (dv 0) d_int) d_int)) a_nil)))))) (dw_or1 (dt_not (dt_val (d_call (F_between.mono (by decide)) hr tk (a_cons (d_ix (dv 0) d_int) (a_cons d_int (a_cons (d_sub (d_ix (dv 0) d_int) (d_ix (dv 0) d_int)) a_nil))))))))) (s_one (s_ret d_bl)) s_nil) (s_cons (s_if (dwt (dw_or (dt_not (dt_val (d_isTuple B.isinstance B.tuple (d_ix (dv 0) d_int)))) (dw_or1 (dt_not (dt_chain op_le o2_le op_le o2_le d_int (d_len B.len (d_ix (dv 0) d_int)) d_int))))) (s_one (s_ret d_bl)) s_nil) (s_one (s_ret (d_and (d_all rfl B.all (d_comp rfl sc_is_errand.nd (i_sq (d_ix (dv 0) d_int)) (blkOk_by (own := [("part", 1)]) (N := N_is_errand) (sc := (defScope s_is_errand)) (by decide +kernel)) rfl (fun _ _ _ _ _ => (g_one 1 sc_is_errand.nd)) (fun _ _ _ _ _ => ts_nil) (fun _ _ _ _ _ => (d_call (F_is_part.mono (by decide)) hr takes0 (a_cons (dv 1) a_nil))))) (d_one (d_is (d_ix (d_ix (d_ix (dv 0) d_int) (d_neg d_int)) d_int) d_non))))))))
abbrev s_are_errands : Stmt := topS 10
abbrev N_are_errands : List Str := ["thing", "errand"]
theorem sc_are_errands : FnScope N_are_errands ["thing"] (defScope s_are_errands) := ⟨rfl, rfl, rfl, by decide +kernel, rfl, by decide +kernel, by decide +kernel⟩
theorem df_are_errands (B : Bts mg) (F_is_errand : Df P w K mg base "is_errand" 4 1 m_is_errand) {f : Addr} {fd : FuncData} (F : Fun K "are_errands" "are_errands" s_are_errands f fd) (hm : mg "are_errands" = some (.ref f)) : Df P w K mg base "are_errands" 5 1 m_are_errands :=
  Df.mk' (M' := []) F hm (F.binds (ps := ["thing"]) fun _ _ _ _ _ _ us hl => match us, hl with | [_], _ => rfl) sc_are_errands rfl rfl fun cdv A outer s0 H E hr tk hp =>
    (s_cons (s_if (dwt (dw_or (dt_not (dt_val (d_isTuple B.isinstance B.tuple (dv 0)))) (dw_or1 (dt_not (dt_chain op_le o2_le op_le o2_le d_int (d_len B.len (dv 0)) d_int))))) (s_one (s_ret d_bl)) s_nil) (s_one (s_ret (d_all rfl B.all (d_comp rfl sc_are_errands.nd (i_sq (dv 0)) (blkOk_by (own := [("errand", 1)]) (N := N_are_errands) (sc := (defScope s_are_errands)) (by decide +kernel)) rfl (fun _ _ _ _ _ => (g_one 1 sc_are_errands.nd)) (fun _ _ _ _ _ => ts_nil) (fun _ _ _ _ _ => (d_call (F_is_errand.mono (by decide)) hr takes0 (a_cons (dv 1) a_nil))))))))
abbrev s_checked : Stmt := topS 11
abbrev N_checked : List Str := ["errands"]
theorem sc_checked : FnScope N_checked ["errands"] (defScope s_checked) := ⟨rfl, rfl, rfl, by decide +kernel, rfl, by decide +kernel, by decide +kernel⟩
theorem df_checked (B : Bts mg) (F_are_errands : Df P w K mg base "are_errands" 5 1 m_are_errands) (X_NoErrands : ExcT K mg "NoErrands") {f : Addr} {fd : FuncData} (F : Fun K "checked" "checked" s_checked f fd) (hm : mg "checked" = some (.ref f)) : Df P w K mg base "checked" 6 1 m_checked :=
  Df.mk' (M' := []) F hm (F.binds (ps := ["errands"]) fun _ _ _ _ _ _ us hl => match us, hl with | [_], _ => rfl) sc_checked rfl rfl fun cdv A outer s0 H E hr tk hp =>
    (s_cons (s_if (dt_not (dt_val (d_call (F_are_errands.mono (by decide)) hr tk (a_cons (dv 0) a_nil)))) (s_one (s_raise X_NoErrands rfl tk)) s_nil) (s_one (s_ret (dv 0))))
abbrev s_shown : Stmt := topS 15
abbrev N_shown : List Str := ["errands"]
theorem sc_shown : FnScope N_shown ["errands"] (defScope s_shown) := ⟨rfl, rfl, rfl, by decide +kernel, rfl, by decide +kernel, by decide +kernel⟩
theorem df_shown (B : Bts mg) (F_text_of : Df P w K mg base "text_of" 2 1 m_text_of) (F_checked : Df P w K mg base "checked" 6 1 m_checked) {f : Addr} {fd : FuncData} (F : Fun K "shown" "shown" s_shown f fd) (hm : mg "shown" = some (.ref f)) : Df P w K mg base "shown" 7 1 m_shown :=
  Df.mk' (M' := []) F hm (F.binds (ps := ["errands"]) fun _ _ _ _ _ _ us hl => match us, hl with | [_], _ => rfl) sc_shown rfl rfl fun cdv A outer s0 H E hr tk hp =>
    (s_one (s_ret (d_call (F_text_of.mono (by decide)) hr tk (a_cons (d_call (F_checked.mono (by decide)) hr tk (a_cons (dv 0) a_nil)) a_nil))))
abbrev s_number_of : Stmt := topS 16
abbrev N_number_of : List Str := ["figures", "sign"]
theorem sc_number_of : FnScope N_number_of ["figures"] (defScope s_number_of) := ⟨rfl, rfl, rfl, by decide +kernel, rfl, by decide +kernel, by decide +kernel⟩
theorem df_number_of (B : Bts mg) (X_NoText : ExcT K mg "NoText") {f : Addr} {fd : FuncData} (F : Fun K "number_of" "number_of" s_number_of f fd) (hm : mg "number_of" = some (.ref f)) : Df P w K mg base "number_of" 1 1 m_number_of :=
  Df.mk' (M' := []) F hm (F.binds (ps := ["figures"]) fun _ _ _ _ _ _ us hl => match us, hl with | [_], _ => rfl) sc_number_of rfl rfl fun cdv A outer s0 H E hr tk hp =>
    (s_cons (s_if (dwt (dw_or (dt_not (dt_chain op_le o2_le op_le o2_le d_int (d_len B.len (dv 0)) d_int)) (dw_or1 (dt_not (dt_val (d_all rfl B.all (d_comp rfl sc_number_of.nd (i_str (dv 0)) (blkOk_by (own := [("sign", 1)]) (N := N_number_of) (sc := (defScope s_number_of)) (by decide +kernel)) rfl (fun _ _ _ _ _ => (g_one 1 sc_number_of.nd)) (fun _ _ _ _ _ => ts_nil) (fun _ _ _ _ _ => (d_inS (dv 1) d_str))))))))) (s_one (s_raise X_NoText rfl tk)) s_nil) (s_one (s_ret (d_intS B.int (dv 0)))))
abbrev s_part_of : Stmt := topS 17
abbrev N_part_of : List Str := ["text", "pieces"]
theorem sc_part_of : FnScope N_part_of ["text"] (defScope s_part_of) := ⟨rfl, rfl, rfl, by decide +kernel, rfl, by decide +kernel, by decide +kernel⟩
theorem df_part_of (B : Bts mg) (F_number_of : Df P w K mg base "number_of" 1 1 m_number_of) (X_NoText : ExcT K mg "NoText") {f : Addr} {fd : FuncData} (F : Fun K "part_of" "part_of" s_part_of f fd) (hm : mg "part_of" = some (.ref f)) : Df P w K mg base "part_of" 2 1 m_part_of :=
  Df.mk' (M' := []) F hm (F.binds (ps := ["text"]) fun _ _ _ _ _ _ us hl => match us, hl with | [_], _ => rfl) sc_part_of rfl rfl fun cdv A outer s0 H E hr tk hp =>
    (s_cons (s_set 1 sc_part_of.nd (se_no (d_split (dv 0) d_str))) (s_cons (s_if (t_gt (d_len B.len (dv 1)) d_int) (s_one (s_raise X_NoText rfl tk)) s_nil) (s_cons (s_if (t_eq (hu65 hr) (d_len B.len (dv 1)) d_int) (s_one (s_ret (d_tup (a_cons (d_call (F_number_of.mono (by decide)) hr tk (a_cons (d_ix (dv 1) d_int) a_nil)) (a_cons d_non a_nil))))) s_nil) (s_one (s_ret (d_tup (a_cons (d_call (F_number_of.mono (by decide)) hr tk (a_cons (d_ix (dv 1) d_int) a_nil)) (a_cons (d_call (F_number_of.mono (by decide)) hr tk (a_cons (d_ix (dv 1) d_int) a_nil)) a_nil))))))))
abbrev s_errand_of : Stmt := topS 18
abbrev N_errand_of : List Str := ["line", "words", "word"]
theorem sc_errand_of : FnScope N_errand_of ["line"] (defScope s_errand_of) := ⟨rfl, rfl, rfl, by decide +kernel, rfl, by decide +kernel, by decide +kernel⟩
theorem df_errand_of (B : Bts mg) (F_number_of : Df P w K mg base "number_of" 1 1 m_number_of) (F_part_of : Df P w K mg base "part_of" 2 1 m_part_of) (X_NoText : ExcT K mg "NoText") {f : Addr} {fd : FuncData} (F : Fun K "errand_of" "errand_of" s_errand_of f fd) (hm : mg "errand_of" = some (.ref f)) : Df P w K mg base "errand_of" 3 1 m_errand_of :=
  Df.mk' (M' := []) F hm (F.binds (ps := ["line"]) fun _ _ _ _ _ _ us hl => match us, hl with | [_], _ => rfl) sc_errand_of rfl rfl fun cdv A outer s0 H E hr tk hp =>
    (s_cons (s_set 1 sc_errand_of.nd (se_no (d_split (dv 0) d_str))) (s_cons (s_if (t_lt (d_len B.len (dv 1)) d_int) (s_one (s_raise X_NoText rfl tk)) s_nil) (s_one (s_ret (d_catT (d_tupc B.tuple (d_compE rfl rfl rfl tk sc_errand_of.nd (i_sq (d_slice (dv 1) o_none (o_some d_int))) (blkOk_by (own := [("word", 2)]) (N := N_errand_of) (sc := (defScope s_errand_of)) (by decide +kernel)) rfl (fun _ _ _ _ _ _ => (g_one 2 sc_errand_of.nd)) (fun _ _ _ _ _ _ => ts_nil) (fun _ _ _ _ _ _ => (d_callB (F_number_of.mono (by decide)) hr (a_cons (dv 2) a_nil))))) (d_tup (a_cons (d_tupc B.tuple (d_compE rfl rfl rfl tk sc_errand_of.nd (i_sq (d_slice (dv 1) (o_some d_int) o_none)) (blkOk_by (own := [("word", 2)]) (N := N_errand_of) (sc := (defScope s_errand_of)) (by decide +kernel)) rfl (fun _ _ _ _ _ _ => (g_one 2 sc_errand_of.nd)) (fun _ _ _ _ _ _ => ts_nil) (fun _ _ _ _ _ _ => (d_callB (F_part_of.mono (by decide)) hr (a_cons (dv 2) a_nil))))) a_nil)))))))
abbrev s_read : Stmt := topS 19
abbrev N_read : List Str := ["text", "lines", "errands", "line"]
theorem sc_read : FnScope N_read ["text"] (defScope s_read) := ⟨rfl, rfl, rfl, by decide +kernel, rfl, by decide +kernel, by decide +kernel⟩
theorem df_read (B : Bts mg) (F_errand_of : Df P w K mg base "errand_of" 3 1 m_errand_of) (F_text_of : Df P w K mg base "text_of" 2 1 m_text_of) (F_are_errands : Df P w K mg base "are_errands" 5 1 m_are_errands) (X_NoText : ExcT K mg "NoText") {f : Addr} {fd : FuncData} (F : Fun K "read" "read" s_read f fd) (hm : mg "read" = some (.ref f)) : Df P w K mg base "read" 6 1 m_read :=
  Df.mk' (M' := []) F hm (F.binds (ps := ["text"]) fun _ _ _ _ _ _ us hl => match us, hl with | [_], _ => rfl) sc_read rfl rfl fun cdv A outer s0 H E hr tk hp =>
    (s_cons (s_if (dt_not (dt_val (d_isStr B.isinstance B.str (dv 0)))) (s_one (s_raise X_NoText rfl tk)) s_nil) (s_cons (s_set 1 sc_read.nd (se_no (d_split (dv 0) d_str))) (s_cons (s_if (t_ne (hu65 hr) (d_ix (dv 1) (d_neg d_int)) d_str) (s_one (s_raise X_NoText rfl tk)) s_nil) (s_cons (s_set 2 sc_read.nd (se_no (d_tupc B.tuple (d_compE rfl rfl rfl tk sc_read.nd (i_sq (d_slice (dv 1) o_none (o_some (d_neg d_int)))) (blkOk_by (own := [("line", 3)]) (N := N_read) (sc := (defScope s_read)) (by decide +kernel)) rfl (fun _ _ _ _ _ _ => (g_one 3 sc_read.nd)) (fun _ _ _ _ _ _ => ts_nil) (fun _ _ _ _ _ _ => (d_callB (F_errand_of.mono (by decide)) hr (a_cons (dv 3) a_nil))))))) (s_cons (s_if (dwt (dw_or (dt_not (dt_val (d_call (F_are_errands.mono (by decide)) hr tk (a_cons (dv 2) a_nil)))) (dw_or1 (t_ne (hu65 hr) (d_call (F_text_of.mono (by decide)) hr tk (a_cons (dv 2) a_nil)) (dv 0))))) (s_one (s_raise X_NoText rfl tk)) s_nil) (s_one (s_ret (dv 2))))))))
abbrev s__law_text : Stmt := topS 26
abbrev N__law_text : List Str := ["_law_errands_here", "_law_text_here", "_law_every", "_law_due_here", "_law_late", "_law_parts", "_law_words", "_law_length", "_law_tool"]
theorem sc__law_text : FnScope N__law_text ["_law_errands_here"] (defScope s__law_text) := ⟨rfl, rfl, rfl, by decide +kernel, rfl, by decide +kernel, by decide +kernel⟩
theorem df__law_text (B : Bts mg) {f : Addr} {fd : FuncData} (F : Fun K "_law_text" "_law_text" s__law_text f fd) (hm : mg "_law_text" = some (.ref f)) : Df P w K mg base "_law_text" 1 1 m__law_text :=
  Df.mk' (M' := []) F hm (F.binds (ps := ["_law_errands_here"]) fun _ _ _ _ _ _ us hl => match us, hl with | [_], _ => rfl) sc__law_text rfl rfl fun cdv A outer s0 H E hr tk hp =>
    (s_cons (s_set 1 sc__law_text.nd (se_no d_str)) (s_cons (s_for hp rfl (i_sq (dv 0)) (g_tup rfl (gs_cons 2 sc__law_text.nd (gs_cons 3 sc__law_text.nd (gs_cons 4 sc__law_text.nd (gs_cons 5 sc__law_text.nd gs_nil))))) (s_cons (s_new 6 sc__law_text.nd (n_lst (a_cons (d_strN B.str (dv 2)) (a_cons (d_strN B.str (dv 3)) (a_cons (d_strN B.str (dv 4)) a_nil))))) (s_cons (s_for hp rfl (i_sq (dv 5)) (g_tup rfl (gs_cons 7 sc__law_text.nd (gs_cons 8 sc__law_text.nd gs_nil))) (s_one (s_app 6 (se_fr (d_ix (d_lst (a_cons (d_catS (d_catS (d_strN B.str (dv 7)) d_str) (d_strN B.str (dv 8))) (a_cons (d_strN B.str (dv 7)) a_nil))) (d_intc B.int (d_is (dv 8) d_non))))))) (s_cons (s_set 1 sc__law_text.nd (se_sc (d_catS (d_catS (dv 1) (d_join d_str (dv 6))) d_str))) (s_frz [] (by decide) s_nil))))) (s_one (s_ret (dv 1)))))
abbrev s__law_spoilt_text : Stmt := topS 25
abbrev N__law_spoilt_text : List Str := ["_law_text_here", "_law_cell", "_law_more", "_law_at", "_law_sign", "_law_way"]
theorem sc__law_spoilt_text : FnScope N__law_spoilt_text ["_law_text_here", "_law_cell", "_law_more"] (defScope s__law_spoilt_text) := ⟨rfl, rfl, rfl, by decide +kernel, rfl, by decide +kernel, by decide +kernel⟩
theorem df__law_spoilt_text (B : Bts mg) {f : Addr} {fd : FuncData} (F : Fun K "_law_spoilt_text" "_law_spoilt_text" s__law_spoilt_text f fd) (hm : mg "_law_spoilt_text" = some (.ref f)) : Df P w K mg base "_law_spoilt_text" 1 3 m__law_spoilt_text :=
  Df.mk' (M' := []) F hm (F.binds (ps := ["_law_text_here", "_law_cell", "_law_more"]) fun _ _ _ _ _ _ us hl => match us, hl with | [_, _, _], _ => rfl) sc__law_spoilt_text rfl rfl fun cdv A outer s0 H E hr tk hp =>
    (s_cons (s_set 3 sc__law_spoilt_text.nd (se_no (d_mod (dv 1) (d_add (d_len B.len (dv 0)) d_int)))) (s_cons (s_set 4 sc__law_spoilt_text.nd (se_no (d_ixS d_str (d_mod (d_div (dv 1) d_int) d_int)))) (s_cons (s_set 5 sc__law_spoilt_text.nd (se_no (d_mod (d_div (dv 1) d_int) d_int))) (s_cons (s_if (t_eq (hu65 hr) (dv 5) d_int) (s_one (s_ret (d_catS (d_catS (d_sliceS (dv 0) o_none (o_some (dv 3))) (dv 4)) (d_sliceS (dv 0) (o_some (dv 3)) o_none)))) s_nil) (s_cons (s_if (t_eq (hu65 hr) (dv 5) d_int) (s_one (s_ret (d_catS (d_sliceS (dv 0) o_none (o_some (dv 3))) (d_sliceS (dv 0) (o_some (d_add (dv 3) d_int)) o_none)))) s_nil) (s_cons (s_if (t_eq (hu65 hr) (dv 5) d_int) (s_one (s_ret (d_catS (d_catS (d_sliceS (dv 0) o_none (o_some (dv 3))) (dv 4)) (d_sliceS (dv 0) (o_some (d_add (dv 3) d_int)) o_none)))) s_nil) (s_cons (s_if (t_eq (hu65 hr) (dv 5) d_int) (s_one (s_ret (d_catS (d_sliceS (dv 0) o_none (o_some (dv 3))) (d_sliceS (dv 0) (o_some (d_add (dv 3) (d_mod (d_div (dv 1) d_int) d_int))) o_none)))) s_nil) (s_cons (s_if (t_eq (hu65 hr) (dv 5) d_int) (s_one (s_ret (d_ix (d_lst (a_cons (d_catS (dv 0) (dv 0)) (a_cons (d_catS (d_sliceS (dv 0) (o_some (dv 3)) o_none) (d_sliceS (dv 0) o_none (o_some (dv 3)))) (a_cons (d_catS d_str (dv 0)) (a_cons (d_catS (dv 0) d_str) a_nil))))) (d_mod (dv 1) d_int)))) s_nil) (s_one (s_ret (d_ix (d_catL (dv 2) (d_lst (a_cons d_non (a_cons d_int (a_cons (d_lst (a_cons (dv 0) a_nil)) (a_cons d_str a_nil)))))) (d_mod (dv 1) (d_add (d_len B.len (dv 2)) d_int)))))))))))))
abbrev s__law_number : Stmt := topS 27
abbrev N__law_number : List Str := ["_law_word", "_law_k"]
theorem sc__law_number : FnScope N__law_number ["_law_word"] (defScope s__law_number) := ⟨rfl, rfl, rfl, by decide +kernel, rfl, by decide +kernel, by decide +kernel⟩
theorem df__law_number (B : Bts mg) {f : Addr} {fd : FuncData} (F : Fun K "_law_number" "_law_number" s__law_number f fd) (hm : mg "_law_number" = some (.ref f)) : Df P w K mg base "_law_number" 1 1 m__law_number :=
  Df.mk' (M' := []) F hm (F.binds (ps := ["_law_word"]) fun _ _ _ _ _ _ us hl => match us, hl with | [_], _ => rfl) sc__law_number rfl rfl fun cdv A outer s0 H E hr tk hp =>
    (s_cons (s_if (t_notin (hu65 hr) (dv 0) (d_comp rfl sc__law_number.nd (i_range1 B.range d_int) (blkOk_by (own := [("_law_k", 1)]) (N := N__law_number) (sc := (defScope s__law_number)) (by decide +kernel)) rfl (fun _ _ _ _ _ => (g_one 1 sc__law_number.nd)) (fun _ _ _ _ _ => ts_nil) (fun _ _ _ _ _ => (d_strN B.str (dv 1))))) (s_one (s_ret (d_neg d_int))) s_nil) (s_one (s_ret (d_intS B.int (dv 0)))))
abbrev s__law_part : Stmt := topS 28
abbrev N__law_part : List Str := ["_law_word", "_law_at"]
theorem sc__law_part : FnScope N__law_part ["_law_word"] (defScope s__law_part) := ⟨rfl, rfl, rfl, by decide +kernel, rfl, by decide +kernel, by decide +kernel⟩
theorem df__law_part (B : Bts mg) (F__law_number : Df P w K mg base "_law_number" 1 1 m__law_number) {f : Addr} {fd : FuncData} (F : Fun K "_law_part" "_law_part" s__law_part f fd) (hm : mg "_law_part" = some (.ref f)) : Df P w K mg base "_law_part" 2 1 m__law_part :=
  Df.mk' (M' := []) F hm (F.binds (ps := ["_law_word"]) fun _ _ _ _ _ _ us hl => match us, hl with | [_], _ => rfl) sc__law_part rfl rfl fun cdv A outer s0 H E hr tk hp =>
    (s_cons (s_if (t_notInS d_str (dv 0)) (s_one (s_ret (d_tup (a_cons (d_call (F__law_number.mono (by decide)) hr tk (a_cons (dv 0) a_nil)) (a_cons d_non a_nil))))) s_nil) (s_cons (s_set 1 sc__law_part.nd (se_no (d_find (dv 0) d_str))) (s_one (s_ret (d_tup (a_cons (d_call (F__law_number.mono (by decide)) hr tk (a_cons (d_sliceS (dv 0) o_none (o_some (dv 1))) a_nil)) (a_cons (d_call (F__law_number.mono (by decide)) hr tk (a_cons (d_sliceS (dv 0) (o_some (d_add (dv 1) d_int)) o_none) a_nil)) a_nil)))))))
abbrev s__law_due : Stmt := topS 29
abbrev N__law_due : List Str := ["_law_text_here", "_law_rows", "_law_line", "_law_words", "_law_numbers", "_law_word"]
theorem sc__law_due : FnScope N__law_due ["_law_text_here"] (defScope s__law_due) := ⟨rfl, rfl, rfl, by decide +kernel, rfl, by decide +kernel, by decide +kernel⟩
theorem df__law_due (B : Bts mg) (F__law_number : Df P w K mg base "_law_number" 1 1 m__law_number) (F__law_part : Df P w K mg base "_law_part" 2 1 m__law_part) (F_checked : Df P w K mg base "checked" 6 1 m_checked) {C_NoErrands : Addr} (XI_NoErrands : ExcI K mg "NoErrands" C_NoErrands) {f : Addr} {fd : FuncData} (F : Fun K "_law_due" "_law_due" s__law_due f fd) (hm : mg "_law_due" = some (.ref f)) : Df P w K mg base "_law_due" 7 1 m__law_due :=
  Df.mk' (M' := []) F hm (F.binds (ps := ["_law_text_here"]) fun _ _ _ _ _ _ us hl => match us, hl with | [_], _ => rfl) sc__law_due rfl rfl fun cdv A outer s0 H E hr tk hp =>
    (s_cons (s_if (dwt (dw_or (dt_not (dt_val (d_isStr B.isinstance B.str (dv 0)))) (dw_or1 (t_ne (hu65 hr) (d_sliceS (dv 0) (o_some (d_neg d_int)) o_none) d_str)))) (s_one (s_ret d_non)) s_nil) (s_cons (s_new 1 sc__law_due.nd (n_lst a_nil)) (s_cons (s_for hp rfl (i_sq (d_split (d_sliceS (dv 0) o_none (o_some (d_neg d_int))) d_str)) (g_one 2 sc__law_due.nd) (s_cons (s_set 3 sc__law_due.nd (se_fr (d_split (dv 2) d_str))) (s_cons (s_setLc 4 rfl sc__law_due.nd (i_sq (d_slice (dv 3) o_none (o_some d_int))) (blkOk_by (own := [("_law_word", 5)]) (N := N__law_due) (sc := (defScope s__law_due)) (by decide +kernel)) rfl (fun _ _ _ _ _ => (g_one 5 sc__law_due.nd)) (fun _ _ _ _ _ => ts_nil) (fun _ _ _ _ _ => (d_call (F__law_number.mono (by decide)) hr takes0 (a_cons (dv 5) a_nil)))) (s_cons (s_if (t_lt (d_len B.len (dv 3)) d_int) (s_one (s_ret d_non)) s_nil) (s_one (s_app 1 (se_fr (d_tup (a_cons (d_ix (dv 4) d_int) (a_cons (d_ix (dv 4) d_int) (a_cons (d_ix (dv 4) d_int) (a_cons (d_tupc B.tuple (d_comp rfl sc__law_due.nd (i_sq (d_slice (dv 3) (o_some d_int) o_none)) (blkOk_by (own := [("_law_word", 5)]) (N := N__law_due) (sc := (defScope s__law_due)) (by decide +kernel)) rfl (fun _ _ _ _ _ => (g_one 5 sc__law_due.nd)) (fun _ _ _ _ _ => ts_nil) (fun _ _ _ _ _ => (d_call (F__law_part.mono (by decide)) hr takes0 (a_cons (dv 5) a_nil))))) a_nil)))))))))))) (s_cons (s_tryRetO XI_NoErrands (fun _ => .non) rfl rfl tk (fun W1 pn xe tk hp => (s_one (s_expr (d_call (F_checked.mono (by decide)) hr tk (a_cons (d_tupc B.tuple (dv 1)) a_nil))))) (fun a oe pn hz hvs => su_retN)) (s_one (s_ret (d_tupc B.tuple (dv 1))))))))
abbrev s_law : Stmt := topS 30
abbrev N_law : List Str := ["_law_script", "_law_errands_here", "_law_text_here", "_law_more", "_law_answer", "e"]
theorem sc_law : FnScope N_law ["_law_script"] (defScope s_law) := ⟨rfl, rfl, rfl, by decide +kernel, rfl, by decide +kernel, by decide +kernel⟩
theorem fn_law (B : Bts mg) (F__law_errands : Df P w K mg base "_law_errands" 4 5 m__law_errands) (F_shown : Df P w K mg base "shown" 7 1 m_shown) (F_read : Df P w K mg base "read" 6 1 m_read) (F__law_text : Df P w K mg base "_law_text" 1 1 m__law_text) (F__law_spoilt_text : Df P w K mg base "_law_spoilt_text" 1 3 m__law_spoilt_text) (F__law_mixed : Df P w K mg base "_law_mixed" 2 3 m__law_mixed) (F__law_due : Df P w K mg base "_law_due" 7 1 m__law_due) {C_NoText : Addr} {C_RankError : Addr} {C_NoErrands : Addr} (XI_NoText : ExcI K mg "NoText" C_NoText) (M_RankError : mg "RankError" = some (.ref C_RankError)) (M_NoErrands : mg "NoErrands" = some (.ref C_NoErrands)) (K_NoText_RankError : PySem.W.kitOne K (.ref C_NoText) (.ref C_RankError) = some true) (K_NoText_ValueError : PySem.W.kitOne K (.ref C_NoText) (.type "ValueError") = some true) (K_NoText_NoErrands : PySem.W.kitOne K (.ref C_NoText) (.ref C_NoErrands) = some false) {f : Addr} {fd : FuncData} (F : Fun K "law" "law" s_law f fd) : FnOk P w K mg base (L2.CX P w) 8 f fd ["_law_script"] (spD K mg 1 m_law_k24) :=
  fn_mk' (M' := []) F sc_law rfl rfl fun cdv A outer s0 H E hr tk hp =>
    (s_cons (s_set 1 sc_law.nd (se_no (d_call (F__law_errands.mono (by decide)) hr tk (a_cons (dv 0) (a_cons d_int (a_cons d_int (a_cons d_int (a_cons d_bl a_nil)))))))) (s_cons (s_set 2 sc_law.nd (se_no (d_call (F_shown.mono (by decide)) hr tk (a_cons (dv 1) a_nil)))) (s_cons (s_if (dwt (dw_or (dt_not (dt_val (d_isStr B.isinstance B.str (dv 2)))) (dw_or (t_ne (hu65 hr) (dv 2) (d_call (F__law_text.mono (by decide)) hr tk (a_cons (dv 1) a_nil))) (dw_or1 (t_ne (hu65 hr) (d_call (F_read.mono (by decide)) hr tk (a_cons (dv 2) a_nil)) (dv 1)))))) (s_one (s_ret d_bl)) s_nil) (s_cons (s_set 3 sc_law.nd (se_no (d_lst (a_cons d_str (a_cons d_str (a_cons d_str (a_cons d_str (a_cons (d_repS d_str d_int) (a_cons d_str (a_cons d_str a_nil)))))))))) (s_cons (s_set 2 sc_law.nd (se_no (d_call (F__law_spoilt_text.mono (by decide)) hr tk (a_cons (dv 2) (a_cons (d_call (F__law_mixed.mono (by decide)) hr tk (a_cons (dv 0) (a_cons d_int (a_cons (d_pow d_int d_int) a_nil)))) (a_cons (dv 3) a_nil)))))) (s_cons (s_set 4 sc_law.nd (se_no d_non)) (s_cons (s_tryNx (i := 5) XI_NoText rfl rfl sc_law.nd tk (fun W1 pn xe tk hp => (s_one (s_set 4 sc_law.nd (se_no (d_call (F_read.mono (by decide)) hr tk (a_cons (dv 2) a_nil)))))) (fun a oe pn hz hvs => h_ifNot (hwt (hw_or (ht_notT (ht_val (h_isC XI_NoText.cls hz hvs B.isinstance M_RankError K_NoText_RankError))) (hw_or (ht_notT (ht_val (h_isT XI_NoText.cls hz hvs B.isinstance B.ValueError (by decide +kernel) K_NoText_ValueError))) (hw_or1 (ht_val (h_isC XI_NoText.cls hz hvs B.isinstance M_NoErrands K_NoText_NoErrands)))))) (pss_one (ps_ret pe_bl)))) (s_one (s_ret (d_eq (hu65 hr) (dv 4) (d_call (F__law_due.mono (by decide)) hr tk (a_cons (dv 2) a_nil))))))))))))
end
theorem all_mk {l : PySem.W.OpenLaw} {w : World} {K : PySem.W.Frag} {h : Heap} {mg : Str → Option Value} {fa : Addr} (hlaw : ∀ ns : List Int, ns.length ≤ 63 → m_law_k24 [.list (ns.map .int)] = .ok (.bool true)) (X : K.In h) (G : h.Ns mainGlobals mg) (hfa : mg "law" = some (.ref fa))
    {od__law_cell_at an__law_cell_at : Option Addr} {sl__law_cell_at : Array (Option Value)} {oc__law_cell_at kV__law_cell_at dc__law_cell_at pm__law_cell_at cd__law_cell_at ct__law_cell_at : Value} {f__law_cell_at : Addr} {od__law_mixed an__law_mixed : Option Addr} {sl__law_mixed : Array (Option Value)} {oc__law_mixed kV__law_mixed dc__law_mixed pm__law_mixed cd__law_mixed ct__law_mixed : Value} {f__law_mixed : Addr} {od__law_errand an__law_errand : Option Addr} {sl__law_errand : Array (Option Value)} {oc__law_errand kV__law_errand dc__law_errand pm__law_errand cd__law_errand ct__law_errand : Value} {f__law_errand : Addr} {od__law_errands an__law_errands : Option Addr} {sl__law_errands : Array (Option Value)} {oc__law_errands kV__law_errands dc__law_errands pm__law_errands cd__law_errands ct__law_errands : Value} {f__law_errands : Addr} {od_part_text an_part_text : Option Addr} {sl_part_text : Array (Option Value)} {oc_part_text kV_part_text dc_part_text pm_part_text cd_part_text ct_part_text : Value} {f_part_text : Addr} {od_text_of an_text_of : Option Addr} {sl_text_of : Array (Option Value)} {oc_text_of kV_text_of dc_text_of pm_text_of cd_text_of ct_text_of : Value} {f_text_of : Addr} {od_is_whole an_is_whole : Option Addr} {sl_is_whole : Array (Option Value)} {oc_is_whole kV_is_whole dc_is_whole pm_is_whole cd_is_whole ct_is_whole : Value} {f_is_whole : Addr} {od_between an_between : Option Addr} {sl_between : Array (Option Value)} {oc_between kV_between dc_between pm_between cd_between ct_between : Value} {f_between : Addr} {od_is_part an_is_part : Option Addr} {sl_is_part : Array (Option Value)} {oc_is_part kV_is_part dc_is_part pm_is_part cd_is_part ct_is_part : Value} {f_is_part : Addr} {od_is_errand an_is_errand : Option Addr} {sl_is_errand : Array (Option Value)} {oc_is_errand kV_is_errand dc_is_errand pm_is_errand cd_is_errand ct_is_errand : Value} {f_is_errand : Addr} {od_are_errands an_are_errands : Option Addr} {sl_are_errands : Array (Option Value)} {oc_are_errands kV_are_errands dc_are_errands pm_are_errands cd_are_errands ct_are_errands : Value} {f_are_errands : Addr} {od_checked an_checked : Option Addr} {sl_checked : Array (Option Value)} {oc_checked kV_checked dc_checked pm_checked cd_checked ct_checked : Value} {f_checked : Addr} {od_shown an_shown : Option Addr} {sl_shown : Array (Option Value)} {oc_shown kV_shown dc_shown pm_shown cd_shown ct_shown : Value} {f_shown : Addr} {od_number_of an_number_of : Option Addr} {sl_number_of : Array (Option Value)} {oc_number_of kV_number_of dc_number_of pm_number_of cd_number_of ct_number_of : Value} {f_number_of : Addr} {od_part_of an_part_of : Option Addr} {sl_part_of : Array (Option Value)} {oc_part_of kV_part_of dc_part_of pm_part_of cd_part_of ct_part_of : Value} {f_part_of : Addr} {od_errand_of an_errand_of : Option Addr} {sl_errand_of : Array (Option Value)} {oc_errand_of kV_errand_of dc_errand_of pm_errand_of cd_errand_of ct_errand_of : Value} {f_errand_of : Addr} {od_read an_read : Option Addr} {sl_read : Array (Option Value)} {oc_read kV_read dc_read pm_read cd_read ct_read : Value} {f_read : Addr} {od__law_text an__law_text : Option Addr} {sl__law_text : Array (Option Value)} {oc__law_text kV__law_text dc__law_text pm__law_text cd__law_text ct__law_text : Value} {f__law_text : Addr} {od__law_spoilt_text an__law_spoilt_text : Option Addr} {sl__law_spoilt_text : Array (Option Value)} {oc__law_spoilt_text kV__law_spoilt_text dc__law_spoilt_text pm__law_spoilt_text cd__law_spoilt_text ct__law_spoilt_text : Value} {f__law_spoilt_text : Addr} {od__law_number an__law_number : Option Addr} {sl__law_number : Array (Option Value)} {oc__law_number kV__law_number dc__law_number pm__law_number cd__law_number ct__law_number : Value} {f__law_number : Addr} {od__law_part an__law_part : Option Addr} {sl__law_part : Array (Option Value)} {oc__law_part kV__law_part dc__law_part pm__law_part cd__law_part ct__law_part : Value} {f__law_part : Addr} {od__law_due an__law_due : Option Addr} {sl__law_due : Array (Option Value)} {oc__law_due kV__law_due dc__law_due pm__law_due cd__law_due ct__law_due : Value} {f__law_due : Addr} {od_law an_law : Option Addr} {sl_law : Array (Option Value)} {oc_law kV_law dc_law pm_law cd_law ct_law : Value} {f_law : Addr} {t_TOOLS : Tok} {C_NoErrands : Addr} {C_NoText : Addr} {C_RankError : Addr}
    (a__law_cell_at : PySem.W.nsIn K mainGlobals "_law_cell_at" = some (some (.ref f__law_cell_at)))
    (l__law_cell_at : K.lookup f__law_cell_at = some ⟨oc__law_cell_at, od__law_cell_at, .func (PySem.W.fnOf "_law_cell_at" "_law_cell_at" (defArgs s__law_cell_at) (defBody s__law_cell_at) (defScope s__law_cell_at) .none kV__law_cell_at dc__law_cell_at pm__law_cell_at an__law_cell_at cd__law_cell_at ct__law_cell_at), sl__law_cell_at⟩)
    (c__law_cell_at : PySem.W.codeIn K cd__law_cell_at "_law_cell_at" = true)
    (k__law_cell_at : PySem.W.keepIn K (.ref f__law_cell_at) = true)
    (a__law_mixed : PySem.W.nsIn K mainGlobals "_law_mixed" = some (some (.ref f__law_mixed)))
    (l__law_mixed : K.lookup f__law_mixed = some ⟨oc__law_mixed, od__law_mixed, .func (PySem.W.fnOf "_law_mixed" "_law_mixed" (defArgs s__law_mixed) (defBody s__law_mixed) (defScope s__law_mixed) .none kV__law_mixed dc__law_mixed pm__law_mixed an__law_mixed cd__law_mixed ct__law_mixed), sl__law_mixed⟩)
    (c__law_mixed : PySem.W.codeIn K cd__law_mixed "_law_mixed" = true)
    (k__law_mixed : PySem.W.keepIn K (.ref f__law_mixed) = true)
    (a__law_errand : PySem.W.nsIn K mainGlobals "_law_errand" = some (some (.ref f__law_errand)))
    (l__law_errand : K.lookup f__law_errand = some ⟨oc__law_errand, od__law_errand, .func (PySem.W.fnOf "_law_errand" "_law_errand" (defArgs s__law_errand) (defBody s__law_errand) (defScope s__law_errand) .none kV__law_errand dc__law_errand pm__law_errand an__law_errand cd__law_errand ct__law_errand), sl__law_errand⟩)
    (c__law_errand : PySem.W.codeIn K cd__law_errand "_law_errand" = true)
    (k__law_errand : PySem.W.keepIn K (.ref f__law_errand) = true)
    (a__law_errands : PySem.W.nsIn K mainGlobals "_law_errands" = some (some (.ref f__law_errands)))
    (l__law_errands : K.lookup f__law_errands = some ⟨oc__law_errands, od__law_errands, .func (PySem.W.fnOf "_law_errands" "_law_errands" (defArgs s__law_errands) (defBody s__law_errands) (defScope s__law_errands) .none kV__law_errands dc__law_errands pm__law_errands an__law_errands cd__law_errands ct__law_errands), sl__law_errands⟩)
    (c__law_errands : PySem.W.codeIn K cd__law_errands "_law_errands" = true)
    (k__law_errands : PySem.W.keepIn K (.ref f__law_errands) = true)
    (a_part_text : PySem.W.nsIn K mainGlobals "part_text" = some (some (.ref f_part_text)))
    (l_part_text : K.lookup f_part_text = some ⟨oc_part_text, od_part_text, .func (PySem.W.fnOf "part_text" "part_text" (defArgs s_part_text) (defBody s_part_text) (defScope s_part_text) .none kV_part_text dc_part_text pm_part_text an_part_text cd_part_text ct_part_text), sl_part_text⟩)
    (c_part_text : PySem.W.codeIn K cd_part_text "part_text" = true)
    (k_part_text : PySem.W.keepIn K (.ref f_part_text) = true)
    (a_text_of : PySem.W.nsIn K mainGlobals "text_of" = some (some (.ref f_text_of)))
    (l_text_of : K.lookup f_text_of = some ⟨oc_text_of, od_text_of, .func (PySem.W.fnOf "text_of" "text_of" (defArgs s_text_of) (defBody s_text_of) (defScope s_text_of) .none kV_text_of dc_text_of pm_text_of an_text_of cd_text_of ct_text_of), sl_text_of⟩)
    (c_text_of : PySem.W.codeIn K cd_text_of "text_of" = true)
    (k_text_of : PySem.W.keepIn K (.ref f_text_of) = true)
    (a_is_whole : PySem.W.nsIn K mainGlobals "is_whole" = some (some (.ref f_is_whole)))
    (l_is_whole : K.lookup f_is_whole = some ⟨oc_is_whole, od_is_whole, .func (PySem.W.fnOf "is_whole" "is_whole" (defArgs s_is_whole) (defBody s_is_whole) (defScope s_is_whole) .none kV_is_whole dc_is_whole pm_is_whole an_is_whole cd_is_whole ct_is_whole), sl_is_whole⟩)
    (c_is_whole : PySem.W.codeIn K cd_is_whole "is_whole" = true)
    (k_is_whole : PySem.W.keepIn K (.ref f_is_whole) = true)
    (a_between : PySem.W.nsIn K mainGlobals "between" = some (some (.ref f_between)))
    (l_between : K.lookup f_between = some ⟨oc_between, od_between, .func (PySem.W.fnOf "between" "between" (defArgs s_between) (defBody s_between) (defScope s_between) .none kV_between dc_between pm_between an_between cd_between ct_between), sl_between⟩)
    (c_between : PySem.W.codeIn K cd_between "between" = true)
    (k_between : PySem.W.keepIn K (.ref f_between) = true)
    (a_is_part : PySem.W.nsIn K mainGlobals "is_part" = some (some (.ref f_is_part)))
    (l_is_part : K.lookup f_is_part = some ⟨oc_is_part, od_is_part, .func (PySem.W.fnOf "is_part" "is_part" (defArgs s_is_part) (defBody s_is_part) (defScope s_is_part) .none kV_is_part dc_is_part pm_is_part an_is_part cd_is_part ct_is_part), sl_is_part⟩)
    (c_is_part : PySem.W.codeIn K cd_is_part "is_part" = true)
    (k_is_part : PySem.W.keepIn K (.ref f_is_part) = true)
    (a_is_errand : PySem.W.nsIn K mainGlobals "is_errand" = some (some (.ref f_is_errand)))
    (l_is_errand : K.lookup f_is_errand = some ⟨oc_is_errand, od_is_errand, .func (PySem.W.fnOf "is_errand" "is_errand" (defArgs s_is_errand) (defBody s_is_errand) (defScope s_is_errand) .none kV_is_errand dc_is_errand pm_is_errand an_is_errand cd_is_errand ct_is_errand), sl_is_errand⟩)
    (c_is_errand : PySem.W.codeIn K cd_is_errand "is_errand" = true)
    (k_is_errand : PySem.W.keepIn K (.ref f_is_errand) = true)
    (a_are_errands : PySem.W.nsIn K mainGlobals "are_errands" = some (some (.ref f_are_errands)))
    (l_are_errands : K.lookup f_are_errands = some ⟨oc_are_errands, od_are_errands, .func (PySem.W.fnOf "are_errands" "are_errands" (defArgs s_are_errands) (defBody s_are_errands) (defScope s_are_errands) .none kV_are_errands dc_are_errands pm_are_errands an_are_errands cd_are_errands ct_are_errands), sl_are_errands⟩)
    (c_are_errands : PySem.W.codeIn K cd_are_errands "are_errands" = true)
    (k_are_errands : PySem.W.keepIn K (.ref f_are_errands) = true)
    (a_checked : PySem.W.nsIn K mainGlobals "checked" = some (some (.ref f_checked)))
    (l_checked : K.lookup f_checked = some ⟨oc_checked, od_checked, .func (PySem.W.fnOf "checked" "checked" (defArgs s_checked) (defBody s_checked) (defScope s_checked) .none kV_checked dc_checked pm_checked an_checked cd_checked ct_checked), sl_checked⟩)
    (c_checked : PySem.W.codeIn K cd_checked "checked" = true)
    (k_checked : PySem.W.keepIn K (.ref f_checked) = true)
    (a_shown : PySem.W.nsIn K mainGlobals "shown" = some (some (.ref f_shown)))
    (l_shown : K.lookup f_shown = some ⟨oc_shown, od_shown, .func (PySem.W.fnOf "shown" "shown" (defArgs s_shown) (defBody s_shown) (defScope s_shown) .none kV_shown dc_shown pm_shown an_shown cd_shown ct_shown), sl_shown⟩)
    (c_shown : PySem.W.codeIn K cd_shown "shown" = true)
    (k_shown : PySem.W.keepIn K (.ref f_shown) = true)
    (a_number_of : PySem.W.nsIn K mainGlobals "number_of" = some (some (.ref f_number_of)))
    (l_number_of : K.lookup f_number_of = some ⟨oc_number_of, od_number_of, .func (PySem.W.fnOf "number_of" "number_of" (defArgs s_number_of) (defBody s_number_of) (defScope s_number_of) .none kV_number_of dc_number_of pm_number_of an_number_of cd_number_of ct_number_of), sl_number_of⟩)
    (c_number_of : PySem.W.codeIn K cd_number_of "number_of" = true)
    (k_number_of : PySem.W.keepIn K (.ref f_number_of) = true)
    (a_part_of : PySem.W.nsIn K mainGlobals "part_of" = some (some (.ref f_part_of)))
    (l_part_of : K.lookup f_part_of = some ⟨oc_part_of, od_part_of, .func (PySem.W.fnOf "part_of" "part_of" (defArgs s_part_of) (defBody s_part_of) (defScope s_part_of) .none kV_part_of dc_part_of pm_part_of an_part_of cd_part_of ct_part_of), sl_part_of⟩)
    (c_part_of : PySem.W.codeIn K cd_part_of "part_of" = true)
    (k_part_of : PySem.W.keepIn K (.ref f_part_of) = true)
    (a_errand_of : PySem.W.nsIn K mainGlobals "errand_of" = some (some (.ref f_errand_of)))
    (l_errand_of : K.lookup f_errand_of = some ⟨oc_errand_of, od_errand_of, .func (PySem.W.fnOf "errand_of" "errand_of" (defArgs s_errand_of) (defBody s_errand_of) (defScope s_errand_of) .none kV_errand_of dc_errand_of pm_errand_of an_errand_of cd_errand_of ct_errand_of), sl_errand_of⟩)
    (c_errand_of : PySem.W.codeIn K cd_errand_of "errand_of" = true)
    (k_errand_of : PySem.W.keepIn K (.ref f_errand_of) = true)
    (a_read : PySem.W.nsIn K mainGlobals "read" = some (some (.ref f_read)))
    (l_read : K.lookup f_read = some ⟨oc_read, od_read, .func (PySem.W.fnOf "read" "read" (defArgs s_read) (defBody s_read) (defScope s_read) .none kV_read dc_read pm_read an_read cd_read ct_read), sl_read⟩)
    (c_read : PySem.W.codeIn K cd_read "read" = true)
    (k_read : PySem.W.keepIn K (.ref f_read) = true)
    (a__law_text : PySem.W.nsIn K mainGlobals "_law_text" = some (some (.ref f__law_text)))
    (l__law_text : K.lookup f__law_text = some ⟨oc__law_text, od__law_text, .func (PySem.W.fnOf "_law_text" "_law_text" (defArgs s__law_text) (defBody s__law_text) (defScope s__law_text) .none kV__law_text dc__law_text pm__law_text an__law_text cd__law_text ct__law_text), sl__law_text⟩)
    (c__law_text : PySem.W.codeIn K cd__law_text "_law_text" = true)
    (k__law_text : PySem.W.keepIn K (.ref f__law_text) = true)
    (a__law_spoilt_text : PySem.W.nsIn K mainGlobals "_law_spoilt_text" = some (some (.ref f__law_spoilt_text)))
    (l__law_spoilt_text : K.lookup f__law_spoilt_text = some ⟨oc__law_spoilt_text, od__law_spoilt_text, .func (PySem.W.fnOf "_law_spoilt_text" "_law_spoilt_text" (defArgs s__law_spoilt_text) (defBody s__law_spoilt_text) (defScope s__law_spoilt_text) .none kV__law_spoilt_text dc__law_spoilt_text pm__law_spoilt_text an__law_spoilt_text cd__law_spoilt_text ct__law_spoilt_text), sl__law_spoilt_text⟩)
    (c__law_spoilt_text : PySem.W.codeIn K cd__law_spoilt_text "_law_spoilt_text" = true)
    (k__law_spoilt_text : PySem.W.keepIn K (.ref f__law_spoilt_text) = true)
    (a__law_number : PySem.W.nsIn K mainGlobals "_law_number" = some (some (.ref f__law_number)))
    (l__law_number : K.lookup f__law_number = some ⟨oc__law_number, od__law_number, .func (PySem.W.fnOf "_law_number" "_law_number" (defArgs s__law_number) (defBody s__law_number) (defScope s__law_number) .none kV__law_number dc__law_number pm__law_number an__law_number cd__law_number ct__law_number), sl__law_number⟩)
    (c__law_number : PySem.W.codeIn K cd__law_number "_law_number" = true)
    (k__law_number : PySem.W.keepIn K (.ref f__law_number) = true)
    (a__law_part : PySem.W.nsIn K mainGlobals "_law_part" = some (some (.ref f__law_part)))
    (l__law_part : K.lookup f__law_part = some ⟨oc__law_part, od__law_part, .func (PySem.W.fnOf "_law_part" "_law_part" (defArgs s__law_part) (defBody s__law_part) (defScope s__law_part) .none kV__law_part dc__law_part pm__law_part an__law_part cd__law_part ct__law_part), sl__law_part⟩)
    (c__law_part : PySem.W.codeIn K cd__law_part "_law_part" = true)
    (k__law_part : PySem.W.keepIn K (.ref f__law_part) = true)
    (a__law_due : PySem.W.nsIn K mainGlobals "_law_due" = some (some (.ref f__law_due)))
    (l__law_due : K.lookup f__law_due = some ⟨oc__law_due, od__law_due, .func (PySem.W.fnOf "_law_due" "_law_due" (defArgs s__law_due) (defBody s__law_due) (defScope s__law_due) .none kV__law_due dc__law_due pm__law_due an__law_due cd__law_due ct__law_due), sl__law_due⟩)
    (c__law_due : PySem.W.codeIn K cd__law_due "_law_due" = true)
    (k__law_due : PySem.W.keepIn K (.ref f__law_due) = true)
    (a_law : PySem.W.nsIn K mainGlobals "law" = some (some (.ref f_law)))
    (l_law : K.lookup f_law = some ⟨oc_law, od_law, .func (PySem.W.fnOf "law" "law" (defArgs s_law) (defBody s_law) (defScope s_law) .none kV_law dc_law pm_law an_law cd_law ct_law), sl_law⟩)
    (c_law : PySem.W.codeIn K cd_law "law" = true)
    (k_law : PySem.W.keepIn K (.ref f_law) = true)
    (z_ValueError : PySem.W.nsIn K mainGlobals "ValueError" = some none)
    (z_all : PySem.W.nsIn K mainGlobals "all" = some none)
    (z_bool : PySem.W.nsIn K mainGlobals "bool" = some none)
    (z_int : PySem.W.nsIn K mainGlobals "int" = some none)
    (z_isinstance : PySem.W.nsIn K mainGlobals "isinstance" = some none)
    (z_len : PySem.W.nsIn K mainGlobals "len" = some none)
    (z_min : PySem.W.nsIn K mainGlobals "min" = some none)
    (z_range : PySem.W.nsIn K mainGlobals "range" = some none)
    (z_str : PySem.W.nsIn K mainGlobals "str" = some none)
    (z_tuple : PySem.W.nsIn K mainGlobals "tuple" = some none)
    (g_TOOLS : PySem.W.nsIn K mainGlobals "TOOLS" = some (some (.int 4 t_TOOLS)))
    (x1_NoErrands : PySem.W.nsIn K mainGlobals "NoErrands" = some (some (.ref C_NoErrands)))
    (x2_NoErrands : PySem.W.excIn K C_NoErrands [.type "ValueError", .type "Exception", .type "BaseException", .type "object"] "ValueError.__new__" = true)
    (x3_NoErrands : PySem.W.keepIn K (.ref C_NoErrands) = true)
    (x4_NoErrands : PySem.W.subIn K (.ref C_NoErrands) (.type "BaseException") = some true)
    (x5_NoErrands : PySem.W.typeIn K (.ref C_NoErrands) = some (.type "type"))
    (x1_NoText : PySem.W.nsIn K mainGlobals "NoText" = some (some (.ref C_NoText)))
    (x2_NoText : PySem.W.excIn K C_NoText [.type "ValueError", .type "Exception", .type "BaseException", .type "object"] "ValueError.__new__" = true)
    (x3_NoText : PySem.W.keepIn K (.ref C_NoText) = true)
    (x4_NoText : PySem.W.subIn K (.ref C_NoText) (.type "BaseException") = some true)
    (x5_NoText : PySem.W.typeIn K (.ref C_NoText) = some (.type "type"))
    (x1_RankError : PySem.W.nsIn K mainGlobals "RankError" = some (some (.ref C_RankError)))
    (x5_RankError : PySem.W.typeIn K (.ref C_RankError) = some (.type "type"))
    (i_NoErrands : PySem.W.isClsIn K C_NoErrands = true)
    (i_NoText : PySem.W.isClsIn K C_NoText = true)
    (i_RankError : PySem.W.isClsIn K C_RankError = true)
    (u_NoErrands : PySem.W.subIn K (.ref C_NoErrands) (.ref C_NoErrands) = some true)
    (y1_NoErrands : PySem.W.findIn K (.ref C_NoErrands) "__getattribute__" = some (some (.builtin "BaseException.__getattribute__")))
    (y2_NoErrands : PySem.W.findIn K (.ref C_NoErrands) "__getattr__" = some none)
    (y3_NoErrands : PySem.W.subIn K (.ref C_NoErrands) (.type "BaseException") = some true)
    (y4_NoErrands : PySem.W.hasDictIn K C_NoErrands = true)
    (y5_NoErrands : PySem.W.findIn K (.ref C_NoErrands) "__class__" = some (some (.builtin "object.__class__")))
    (y6_NoErrands : PySem.W.specialIn K (.builtin "object.__class__") "__get__" = some (some (.builtin "getset_descriptor.__get__")))
    (y7_NoErrands : PySem.W.takesIn K (.builtin "object.__class__") = some true)
    (y8_NoErrands : PySem.W.mroIn K C_NoErrands (.type "object") = some true)
    (u_NoText : PySem.W.subIn K (.ref C_NoText) (.ref C_NoText) = some true)
    (y1_NoText : PySem.W.findIn K (.ref C_NoText) "__getattribute__" = some (some (.builtin "BaseException.__getattribute__")))
    (y2_NoText : PySem.W.findIn K (.ref C_NoText) "__getattr__" = some none)
    (y3_NoText : PySem.W.subIn K (.ref C_NoText) (.type "BaseException") = some true)
    (y4_NoText : PySem.W.hasDictIn K C_NoText = true)
    (y5_NoText : PySem.W.findIn K (.ref C_NoText) "__class__" = some (some (.builtin "object.__class__")))
    (y6_NoText : PySem.W.specialIn K (.builtin "object.__class__") "__get__" = some (some (.builtin "getset_descriptor.__get__")))
    (y7_NoText : PySem.W.takesIn K (.builtin "object.__class__") = some true)
    (y8_NoText : PySem.W.mroIn K C_NoText (.type "object") = some true)
    (u_NoText_RankError : PySem.W.subIn K (.ref C_NoText) (.ref C_RankError) = some true)
    (u_NoText_ValueError : PySem.W.subIn K (.ref C_NoText) (.type "ValueError") = some true)
    (u_NoText_NoErrands : PySem.W.subIn K (.ref C_NoText) (.ref C_NoErrands) = some false) :
    ∃ fd : FuncData, (∀ (s : Shared) (v : Value), BindsTo s fd ⟨[v], []⟩ [("_law_script", v)]) ∧ ∀ base : Heap, K.In base → base.Ns mainGlobals mg → FnOk l.prog w K mg base (L2.CX l.prog w) 8 fa fd ["_law_script"] (spLaw K) := by
  have e := hfa.symm.trans (PySem.W.mg_of X G a_law)
  cases e
  have B : Bts mg := ⟨PySem.W.mg_none_of X G z_ValueError, PySem.W.mg_none_of X G z_all, PySem.W.mg_none_of X G z_bool, PySem.W.mg_none_of X G z_int, PySem.W.mg_none_of X G z_isinstance, PySem.W.mg_none_of X G z_len, PySem.W.mg_none_of X G z_min, PySem.W.mg_none_of X G z_range, PySem.W.mg_none_of X G z_str, PySem.W.mg_none_of X G z_tuple⟩
  have X_NoErrands : ExcT K mg "NoErrands" := ⟨C_NoErrands, PySem.W.mg_of X G x1_NoErrands, x2_NoErrands, x3_NoErrands, x4_NoErrands, x5_NoErrands⟩
  have X_NoText : ExcT K mg "NoText" := ⟨C_NoText, PySem.W.mg_of X G x1_NoText, x2_NoText, x3_NoText, x4_NoText, x5_NoText⟩
  have XI_NoErrands : ExcI K mg "NoErrands" C_NoErrands := ⟨PySem.W.mg_of X G x1_NoErrands, exm_own y3_NoErrands i_NoErrands x5_NoErrands u_NoErrands, ⟨y1_NoErrands, y2_NoErrands, y3_NoErrands, y4_NoErrands, y5_NoErrands, y6_NoErrands, y7_NoErrands, y8_NoErrands⟩⟩
  have XI_NoText : ExcI K mg "NoText" C_NoText := ⟨PySem.W.mg_of X G x1_NoText, exm_own y3_NoText i_NoText x5_NoText u_NoText, ⟨y1_NoText, y2_NoText, y3_NoText, y4_NoText, y5_NoText, y6_NoText, y7_NoText, y8_NoText⟩⟩
  refine ⟨PySem.W.fnOf "law" "law" (defArgs s_law) (defBody s_law) (defScope s_law) .none kV_law dc_law pm_law an_law cd_law ct_law, fun s v => .of_eq rfl, fun base _ _ => ?_⟩
  have F__law_cell_at : Df l.prog w K mg base "_law_cell_at" 1 2 m__law_cell_at := df__law_cell_at B (fun_mk (st := s__law_cell_at) l__law_cell_at c__law_cell_at k__law_cell_at) (PySem.W.mg_of X G a__law_cell_at)
  have F__law_mixed : Df l.prog w K mg base "_law_mixed" 2 3 m__law_mixed := df__law_mixed B F__law_cell_at (fun_mk (st := s__law_mixed) l__law_mixed c__law_mixed k__law_mixed) (PySem.W.mg_of X G a__law_mixed)
  have F__law_errand : Df l.prog w K mg base "_law_errand" 3 4 m__law_errand := df__law_errand B F__law_mixed (fun_mk (st := s__law_errand) l__law_errand c__law_errand k__law_errand) (PySem.W.mg_of X G a__law_errand)
  have F__law_errands : Df l.prog w K mg base "_law_errands" 4 5 m__law_errands := df__law_errands B F__law_mixed F__law_errand (fun_mk (st := s__law_errands) l__law_errands c__law_errands k__law_errands) (PySem.W.mg_of X G a__law_errands)
  have F_part_text : Df l.prog w K mg base "part_text" 1 1 m_part_text := df_part_text B (fun_mk (st := s_part_text) l_part_text c_part_text k_part_text) (PySem.W.mg_of X G a_part_text)
  have F_text_of : Df l.prog w K mg base "text_of" 2 1 m_text_of := df_text_of B F_part_text (fun_mk (st := s_text_of) l_text_of c_text_of k_text_of) (PySem.W.mg_of X G a_text_of)
  have F_is_whole : Df l.prog w K mg base "is_whole" 1 1 m_is_whole := df_is_whole B (fun_mk (st := s_is_whole) l_is_whole c_is_whole k_is_whole) (PySem.W.mg_of X G a_is_whole)
  have F_between : Df l.prog w K mg base "between" 2 3 m_between := df_between B F_is_whole (fun_mk (st := s_between) l_between c_between k_between) (PySem.W.mg_of X G a_between)
  have F_is_part : Df l.prog w K mg base "is_part" 3 1 m_is_part := df_is_part B F_between (PySem.W.mg_of X G g_TOOLS) (fun_mk (st := s_is_part) l_is_part c_is_part k_is_part) (PySem.W.mg_of X G a_is_part)
  have F_is_errand : Df l.prog w K mg base "is_errand" 4 1 m_is_errand := df_is_errand B F_between F_is_part (fun_mk (st := s_is_errand) l_is_errand c_is_errand k_is_errand) (PySem.W.mg_of X G a_is_errand)
  have F_are_errands : Df l.prog w K mg base "are_errands" 5 1 m_are_errands := df_are_errands B F_is_errand (fun_mk (st := s_are_errands) l_are_errands c_are_errands k_are_errands) (PySem.W.mg_of X G a_are_errands)
  have F_checked : Df l.prog w K mg base "checked" 6 1 m_checked := df_checked B F_are_errands X_NoErrands (fun_mk (st := s_checked) l_checked c_checked k_checked) (PySem.W.mg_of X G a_checked)
  have F_shown : Df l.prog w K mg base "shown" 7 1 m_shown := df_shown B F_text_of F_checked (fun_mk (st := s_shown) l_shown c_shown k_shown) (PySem.W.mg_of X G a_shown)
  have F_number_of : Df l.prog w K mg base "number_of" 1 1 m_number_of := df_number_of B X_NoText (fun_mk (st := s_number_of) l_number_of c_number_of k_number_of) (PySem.W.mg_of X G a_number_of)
  have F_part_of : Df l.prog w K mg base "part_of" 2 1 m_part_of := df_part_of B F_number_of X_NoText (fun_mk (st := s_part_of) l_part_of c_part_of k_part_of) (PySem.W.mg_of X G a_part_of)
  have F_errand_of : Df l.prog w K mg base "errand_of" 3 1 m_errand_of := df_errand_of B F_number_of F_part_of X_NoText (fun_mk (st := s_errand_of) l_errand_of c_errand_of k_errand_of) (PySem.W.mg_of X G a_errand_of)
  have F_read : Df l.prog w K mg base "read" 6 1 m_read := df_read B F_errand_of F_text_of F_are_errands X_NoText (fun_mk (st := s_read) l_read c_read k_read) (PySem.W.mg_of X G a_read)
  have F__law_text : Df l.prog w K mg base "_law_text" 1 1 m__law_text := df__law_text B (fun_mk (st := s__law_text) l__law_text c__law_text k__law_text) (PySem.W.mg_of X G a__law_text)
  have F__law_spoilt_text : Df l.prog w K mg base "_law_spoilt_text" 1 3 m__law_spoilt_text := df__law_spoilt_text B (fun_mk (st := s__law_spoilt_text) l__law_spoilt_text c__law_spoilt_text k__law_spoilt_text) (PySem.W.mg_of X G a__law_spoilt_text)
  have F__law_number : Df l.prog w K mg base "_law_number" 1 1 m__law_number := df__law_number B (fun_mk (st := s__law_number) l__law_number c__law_number k__law_number) (PySem.W.mg_of X G a__law_number)
  have F__law_part : Df l.prog w K mg base "_law_part" 2 1 m__law_part := df__law_part B F__law_number (fun_mk (st := s__law_part) l__law_part c__law_part k__law_part) (PySem.W.mg_of X G a__law_part)
  have F__law_due : Df l.prog w K mg base "_law_due" 7 1 m__law_due := df__law_due B F__law_number F__law_part F_checked XI_NoErrands (fun_mk (st := s__law_due) l__law_due c__law_due k__law_due) (PySem.W.mg_of X G a__law_due)
  exact law_fn (fn_law B F__law_errands F_shown F_read F__law_text F__law_spoilt_text F__law_mixed F__law_due XI_NoText (PySem.W.mg_of X G x1_RankError) (PySem.W.mg_of X G x1_NoErrands) (kit_own u_NoText i_RankError x5_RankError u_NoText_RankError) (kit_bltn (by decide +kernel) u_NoText_ValueError) (kit_own u_NoText i_NoErrands x5_NoErrands u_NoText_NoErrands) (fun_mk (st := s_law) l_law c_law k_law)) hlaw
end L2.DL.Wk_k24_texts
open PySem PySem.W PyProof.Rows
set_option maxHeartbeats 0 in
theorem PySem.Challenge.cw_ranksure_k24_texts_holds : PySem.Challenge.rw_ranksure_k24_texts.Holds := by
  w_on; o_law; k_head; (case hw => w_witness2)
  k_fill
  refine L2.walk_of (l := PySem.Challenge.rw_ranksure_k24_texts) (n := 63) (k := 8) (x := "_law_script") (CX := fun w => L2.CX (PySem.Challenge.rw_ranksure_k24_texts).prog w) (sp := fun w => L2.DL.spLaw _) rfl (by decide) rfl ⟨rfl, by decide, by decide⟩ (fun w h Y => PySem.W.kIn_of Y) ?F (fun _ _ a ns hl _ hS => ⟨a, ns, rfl, hS, hl, fun _ => rfl⟩) (fun _ _ _ _ _ h => L2.DL.cx_end h)
  case F =>
    intro w mg fa h KX G hmg
    refine' L2.DL.Wk_k24_texts.all_mk L2.DL.hlaw_k24 KX G hmg ?a__law_cell_at ?l__law_cell_at ?c__law_cell_at ?k__law_cell_at ?a__law_mixed ?l__law_mixed ?c__law_mixed ?k__law_mixed ?a__law_errand ?l__law_errand ?c__law_errand ?k__law_errand ?a__law_errands ?l__law_errands ?c__law_errands ?k__law_errands ?a_part_text ?l_part_text ?c_part_text ?k_part_text ?a_text_of ?l_text_of ?c_text_of ?k_text_of ?a_is_whole ?l_is_whole ?c_is_whole ?k_is_whole ?a_between ?l_between ?c_between ?k_between ?a_is_part ?l_is_part ?c_is_part ?k_is_part ?a_is_errand ?l_is_errand ?c_is_errand ?k_is_errand ?a_are_errands ?l_are_errands ?c_are_errands ?k_are_errands ?a_checked ?l_checked ?c_checked ?k_checked ?a_shown ?l_shown ?c_shown ?k_shown ?a_number_of ?l_number_of ?c_number_of ?k_number_of ?a_part_of ?l_part_of ?c_part_of ?k_part_of ?a_errand_of ?l_errand_of ?c_errand_of ?k_errand_of ?a_read ?l_read ?c_read ?k_read ?a__law_text ?l__law_text ?c__law_text ?k__law_text ?a__law_spoilt_text ?l__law_spoilt_text ?c__law_spoilt_text ?k__law_spoilt_text ?a__law_number ?l__law_number ?c__law_number ?k__law_number ?a__law_part ?l__law_part ?c__law_part ?k__law_part ?a__law_due ?l__law_due ?c__law_due ?k__law_due ?a_law ?l_law ?c_law ?k_law ?z_ValueError ?z_all ?z_bool ?z_int ?z_isinstance ?z_len ?z_min ?z_range ?z_str ?z_tuple ?g_TOOLS ?x1_NoErrands ?x2_NoErrands ?x3_NoErrands ?x4_NoErrands ?x5_NoErrands ?x1_NoText ?x2_NoText ?x3_NoText ?x4_NoText ?x5_NoText ?x1_RankError ?x5_RankError ?i_NoErrands ?i_NoText ?i_RankError ?u_NoErrands ?y1_NoErrands ?y2_NoErrands ?y3_NoErrands ?y4_NoErrands ?y5_NoErrands ?y6_NoErrands ?y7_NoErrands ?y8_NoErrands ?u_NoText ?y1_NoText ?y2_NoText ?y3_NoText ?y4_NoText ?y5_NoText ?y6_NoText ?y7_NoText ?y8_NoText ?u_NoText_RankError ?u_NoText_ValueError ?u_NoText_NoErrands
    (case a__law_cell_at => k_is)
    (case l__law_cell_at => k_is)
    (case c__law_cell_at => k_is)
    (case k__law_cell_at => k_is)
    (case a__law_mixed => k_is)
    (case l__law_mixed => k_is)
    (case c__law_mixed => k_is)
    (case k__law_mixed => k_is)
    (case a__law_errand => k_is)
    (case l__law_errand => k_is)
    (case c__law_errand => k_is)
    (case k__law_errand => k_is)
    (case a__law_errands => k_is)
    (case l__law_errands => k_is)
    (case c__law_errands => k_is)
    (case k__law_errands => k_is)
    (case a_part_text => k_is)
    (case l_part_text => k_is)
    (case c_part_text => k_is)
    (case k_part_text => k_is)
    (case a_text_of => k_is)
    (case l_text_of => k_is)
    (case c_text_of => k_is)
    (case k_text_of => k_is)
    (case a_is_whole => k_is)
    (case l_is_whole => k_is)
    (case c_is_whole => k_is)
    (case k_is_whole => k_is)
    (case a_between => k_is)
    (case l_between => k_is)
    (case c_between => k_is)
    (case k_between => k_is)
    (case a_is_part => k_is)
    (case l_is_part => k_is)
    (case c_is_part => k_is)
    (case k_is_part => k_is)
    (case a_is_errand => k_is)
    (case l_is_errand => k_is)
    (case c_is_errand => k_is)
    (case k_is_errand => k_is)
    (case a_are_errands => k_is)
    (case l_are_errands => k_is)
    (case c_are_errands => k_is)
    (case k_are_errands => k_is)
    (case a_checked => k_is)
    (case l_checked => k_is)
    (case c_checked => k_is)
    (case k_checked => k_is)
    (case a_shown => k_is)
    (case l_shown => k_is)
    (case c_shown => k_is)
    (case k_shown => k_is)
    (case a_number_of => k_is)
    (case l_number_of => k_is)
    (case c_number_of => k_is)
    (case k_number_of => k_is)
    (case a_part_of => k_is)
    (case l_part_of => k_is)
    (case c_part_of => k_is)
    (case k_part_of => k_is)
    (case a_errand_of => k_is)
    (case l_errand_of => k_is)
    (case c_errand_of => k_is)
    (case k_errand_of => k_is)
    (case a_read => k_is)
    (case l_read => k_is)
    (case c_read => k_is)
    (case k_read => k_is)
    (case a__law_text => k_is)
    (case l__law_text => k_is)
    (case c__law_text => k_is)
    (case k__law_text => k_is)
    (case a__law_spoilt_text => k_is)
    (case l__law_spoilt_text => k_is)
    (case c__law_spoilt_text => k_is)
    (case k__law_spoilt_text => k_is)
    (case a__law_number => k_is)
    (case l__law_number => k_is)
    (case c__law_number => k_is)
    (case k__law_number => k_is)
    (case a__law_part => k_is)
    (case l__law_part => k_is)
    (case c__law_part => k_is)
    (case k__law_part => k_is)
    (case a__law_due => k_is)
    (case l__law_due => k_is)
    (case c__law_due => k_is)
    (case k__law_due => k_is)
    (case a_law => k_is)
    (case l_law => k_is)
    (case c_law => k_is)
    (case k_law => k_is)
    (case z_ValueError => k_is)
    (case z_all => k_is)
    (case z_bool => k_is)
    (case z_int => k_is)
    (case z_isinstance => k_is)
    (case z_len => k_is)
    (case z_min => k_is)
    (case z_range => k_is)
    (case z_str => k_is)
    (case z_tuple => k_is)
    (case g_TOOLS => k_is)
    (case x1_NoErrands => k_is)
    (case x2_NoErrands => k_exc)
    (case x3_NoErrands => k_is)
    (case x4_NoErrands => k_is)
    (case x5_NoErrands => k_is)
    (case x1_NoText => k_is)
    (case x2_NoText => k_exc)
    (case x3_NoText => k_is)
    (case x4_NoText => k_is)
    (case x5_NoText => k_is)
    (case x1_RankError => k_is)
    (case x5_RankError => k_is)
    (case i_NoErrands => k_is)
    (case i_NoText => k_is)
    (case i_RankError => k_is)
    (case u_NoErrands => k_is)
    (case y1_NoErrands => k_is)
    (case y2_NoErrands => k_is)
    (case y3_NoErrands => k_is)
    (case y4_NoErrands => k_is)
    (case y5_NoErrands => k_is)
    (case y6_NoErrands => k_is)
    (case y7_NoErrands => k_is)
    (case y8_NoErrands => k_is)
    (case u_NoText => k_is)
    (case y1_NoText => k_is)
    (case y2_NoText => k_is)
    (case y3_NoText => k_is)
    (case y4_NoText => k_is)
    (case y5_NoText => k_is)
    (case y6_NoText => k_is)
    (case y7_NoText => k_is)
    (case y8_NoText => k_is)
    (case u_NoText_RankError => k_is)
    (case u_NoText_ValueError => k_is)
    (case u_NoText_NoErrands => k_is)
